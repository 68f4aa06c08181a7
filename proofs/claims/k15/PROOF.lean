import PyProof.Rows.All
import Wide.All
import OpenK.AllK
import Wide.FinOn
import PySem.Challenge.RW_evenlymet_k15_attempts_at_benches
import HandS.ForMost
import HandS.ForExc
import HandS.Lambda
import HandS.HeadWalk
import HandS.HeadHook1
import HandS.HeadHook2
import HandS.HeadHook4
import HandS.TupAny
import HandS.TupMul
import HandS.Deep
import HandS.IsInst
import HandS.Set
import HandS.SetFor
import HandS.Strs
import HandS.Style
import HandS.Zip
import HandS.ExcOwn
import HandS.TryOnly
import HandS.WordsExc
import HandS.Defaults
import HandS.Base
import HandS.Call
import HandS.Exc
import HandS.ExcIs
import HandS.TryMany
import HandS.List
import HandS.CallLocal
import HandS.Replace
import HandS.Text
import KE.KTupSum
import PyProof.SetRoads
import HandS.Star
import HandS.Property
import HandS.ClsMeth
import HandS.FStr
import HandS.SlotsOwn
import KE.KOpsOwn
import KE.KCallOwn
import PyProof.TupleOfSeq
import HandS.GenList
import HandS.TupLe
import HandS.NamedTupSort
import PyProof.ListRange
import PyProof.CollectIter
import PyProof.EnumMake
import HandS.Conv
import HandS.Finally
import HandS.Head0
import HandS.Head1
import HandS.Head2
set_option Elab.async false
set_option linter.all false
set_option maxRecDepth 100000
set_option maxHeartbeats 4000000
namespace DL
open PySem PySem.Spec PyProof.Rows L2

/-! ### deep data -/
inductive D where
  | non | bl (b : Bool) | int (i : Int) | str (x : Str) | ref (a : Addr) | glo (x : Str) | ty (n : String)
  | tup (xs : List D) | lst (xs : List D) | frz (xs : List D) | dic (ks : List Str) (xs : List D)

mutual
/-- a value stands for data in a heap whose objects stay as they are -/
inductive Rp (K : PySem.W.Frag) (H : Hp) : V → D → Prop
  | non : Rp K H .non .non
  | bl (b : Bool) : Rp K H (.bl b) (.bl b)
  | int (i : Int) : Rp K H (.int i) (.int i)
  | str (x : Str) : Rp K H (.str x) (.str x)
  | ref (a : Addr) : Rp K H (.ref a) (.ref a)
  | glo (x : Str) : Rp K H (.ref (He.ga K x)) (.glo x)
  | ty (n : String) : Rp K H (.ty n) (.ty n)
  | tup {a : Addr} {xs : List V} {ds : List D} : SqT K H a xs → Rps K H xs ds → Rp K H (.ref a) (.tup ds)
  | lst {a : Addr} {xs : List V} {ds : List D} : H a = some (.lst xs) → Rps K H xs ds → Rp K H (.ref a) (.lst ds)
  | frz {a : Addr} {xs : List V} {ds : List D} : SqL K H a xs → Rps K H xs ds → Rp K H (.ref a) (.frz ds)
  | dic {a : Addr} {kvs : List (Key × V)} {ks : List Str} {ds : List D} : H a = some (.dK kvs) → kvs.map (·.1) = ks.map Sum.inr → Rps K H (kvs.map (·.2)) ds → Rp K H (.ref a) (.dic ks ds)
inductive Rps (K : PySem.W.Frag) (H : Hp) : List V → List D → Prop
  | nil : Rps K H [] []
  | cons {v : V} {vs : List V} {d : D} {ds : List D} : Rp K H v d → Rps K H vs ds → Rps K H (v :: vs) (d :: ds)
end

abbrev Sub (H H' : Hp) : Prop := ∀ a o, H a = some o → H' a = some o
theorem sqL_sub {K : PySem.W.Frag} {H H' : Hp} {a : Addr} {xs : List V} (e : Sub H H') (h : SqL K H a xs) : SqL K H' a xs := Same.seq e h
theorem sqT_sub {K : PySem.W.Frag} {H H' : Hp} {a : Addr} {xs : List V} (e : Sub H H') (h : SqT K H a xs) : SqT K H' a xs := by
  rcases h with (h | ⟨o, h⟩) | h
  · exact .inl (.inl (e _ _ h))
  · exact .inl (.inr ⟨o, e _ _ h⟩)
  · exact .inr h
mutual
theorem Rp.sub {K : PySem.W.Frag} {H H' : Hp} (e : Sub H H') : ∀ {v : V} {d : D}, Rp K H v d → Rp K H' v d
  | _, _, .non => .non
  | _, _, .bl b => .bl b
  | _, _, .int i => .int i
  | _, _, .str x => .str x
  | _, _, .ref a => .ref a
  | _, _, .glo x => .glo x
  | _, _, .ty n => .ty n
  | _, _, .tup h r => .tup (sqT_sub e h) (Rps.sub e r)
  | _, _, .lst h r => .lst (e _ _ h) (Rps.sub e r)
  | _, _, .frz h r => .frz (sqL_sub e h) (Rps.sub e r)
  | _, _, .dic h k r => .dic (e _ _ h) k (Rps.sub e r)
theorem Rps.sub {K : PySem.W.Frag} {H H' : Hp} (e : Sub H H') : ∀ {v : List V} {d : List D}, Rps K H v d → Rps K H' v d
  | _, _, .nil => .nil
  | _, _, .cons a b => .cons (Rp.sub e a) (Rps.sub e b)
end
theorem Rps.length {K : PySem.W.Frag} {H : Hp} : ∀ {v : List V} {d : List D}, Rps K H v d → v.length = d.length
  | _, _, .nil => rfl
  | _, _, .cons _ b => by rw [List.length_cons, List.length_cons, Rps.length b]
theorem Rps.get {K : PySem.W.Frag} {H : Hp} : ∀ {xs : List V} {ds : List D} {i : Nat} {d : D}, Rps K H xs ds → ds[i]? = some d → ∃ v, xs[i]? = some v ∧ Rp K H v d
  | _, _, _, _, .nil, h => by simp at h
  | _, _, 0, _, .cons a _, h => by
    simp at h
    subst h
    exact ⟨_, rfl, a⟩
  | _, _, i + 1, d, .cons _ b, h => by
    obtain ⟨v, h1, h2⟩ := Rps.get (i := i) (d := d) b (by simpa using h)
    exact ⟨v, by simpa using h1, h2⟩
theorem Rps.getV {K : PySem.W.Frag} {H : Hp} : ∀ {xs : List V} {ds : List D} {i : Nat} {v : V}, Rps K H xs ds → xs[i]? = some v → ∃ d, ds[i]? = some d ∧ Rp K H v d
  | _, _, _, _, .nil, h => by simp at h
  | _, _, 0, _, .cons a _, h => by
    simp at h
    subst h
    exact ⟨_, rfl, a⟩
  | _, _, i + 1, d, .cons _ b, h => by
    obtain ⟨v, h1, h2⟩ := Rps.getV (i := i) (v := d) b (by simpa using h)
    exact ⟨v, by simpa using h1, h2⟩
theorem Rps.append {K : PySem.W.Frag} {H : Hp} : ∀ {xs ys : List V} {ds es : List D}, Rps K H xs ds → Rps K H ys es → Rps K H (xs ++ ys) (ds ++ es)
  | _, _, _, _, .nil, s => s
  | _, _, _, _, .cons a b, s => .cons a (Rps.append b s)
theorem Rps.take {K : PySem.W.Frag} {H : Hp} : ∀ {xs : List V} {ds : List D} (n : Nat), Rps K H xs ds → Rps K H (xs.take n) (ds.take n)
  | _, _, 0, _ => .nil
  | _, _, _ + 1, .nil => .nil
  | _, _, n + 1, .cons a b => .cons a (Rps.take n b)
theorem Rps.drop {K : PySem.W.Frag} {H : Hp} : ∀ {xs : List V} {ds : List D} (n : Nat), Rps K H xs ds → Rps K H (xs.drop n) (ds.drop n)
  | _, _, 0, r => r
  | _, _, _ + 1, .nil => .nil
  | _, _, n + 1, .cons _ b => Rps.drop n b
theorem Rps.set {K : PySem.W.Frag} {H : Hp} {v : V} {d : D} (a : Rp K H v d) : ∀ {xs : List V} {ds : List D} (n : Nat), Rps K H xs ds → Rps K H (xs.set n v) (ds.set n d)
  | _, _, _, .nil => .nil
  | _, _, 0, .cons _ b => .cons a b
  | _, _, n + 1, .cons x b => .cons x (Rps.set a n b)
theorem Rps.reverse {K : PySem.W.Frag} {H : Hp} : ∀ {xs : List V} {ds : List D}, Rps K H xs ds → Rps K H xs.reverse ds.reverse
  | _, _, .nil => .nil
  | _, _, .cons a b => by
    rw [List.reverse_cons, List.reverse_cons]
    exact Rps.append (Rps.reverse b) (.cons a .nil)
theorem Rps.strs {K : PySem.W.Frag} {H : Hp} : ∀ {xs : List V} {ss : List Str}, Rps K H xs (ss.map D.str) → xs = ss.map V.str
  | [], [], _ => rfl
  | _ :: _, [], h => nomatch h
  | [], _ :: _, h => nomatch h
  | v :: vs, s :: ss, h => by
    cases h with
    | cons a b =>
      cases a
      rw [List.map_cons, Rps.strs b]
theorem Rps.ofStrs {K : PySem.W.Frag} {H : Hp} : ∀ (ss : List Str), Rps K H (ss.map V.str) (ss.map D.str)
  | [] => .nil
  | s :: ss => .cons (.str s) (Rps.ofStrs ss)
theorem Rps.ints {K : PySem.W.Frag} {H : Hp} : ∀ {xs : List V} {ss : List Int}, Rps K H xs (ss.map D.int) → xs = ss.map V.int
  | [], [], _ => rfl
  | _ :: _, [], h => nomatch h
  | [], _ :: _, h => nomatch h
  | v :: vs, s :: ss, h => by
    cases h with
    | cons a b =>
      cases a
      rw [List.map_cons, Rps.ints b]
theorem Rps.ofInts {K : PySem.W.Frag} {H : Hp} : ∀ (ss : List Int), Rps K H (ss.map V.int) (ss.map D.int)
  | [] => .nil
  | s :: ss => .cons (.int s) (Rps.ofInts ss)
theorem Rps.bls {K : PySem.W.Frag} {H : Hp} : ∀ {xs : List V} {ss : List Bool}, Rps K H xs (ss.map D.bl) → xs = ss.map V.bl
  | [], [], _ => rfl
  | _ :: _, [], h => nomatch h
  | [], _ :: _, h => nomatch h
  | v :: vs, s :: ss, h => by
    cases h with
    | cons a b =>
      cases a
      rw [List.map_cons, Rps.bls b]

/-! ### what changes: a store of objects -/
/-- what is told of an object by a word of its own stays (code objects) -/
def KeepC (H H' : Hp) : Prop := ∀ c φ, H c = some (.ext φ) → H' c = some (.ext φ)
theorem keepC_new {H : Hp} {p : Addr} (hp : H p = none) (o : HO) : KeepC H (upd H p o) := fun c q e => by rw [upd_ne (ne_of_none e hp)]; exact e
/-- what may be written over -/
def NoCode (H : Hp) (p : Addr) : Prop := ∀ φ, H p ≠ some (.ext φ)
theorem keepC_upd {H : Hp} {p : Addr} (hp : NoCode H p) (o : HO) : KeepC H (upd H p o) := fun c q e => by
  by_cases hc : c = p
  · subst hc; exact absurd e (hp q)
  · rw [upd_ne hc]; exact e
theorem noCode_lst {H : Hp} {p : Addr} {xs : List V} (e : H p = some (.lst xs)) : NoCode H p := fun q z => by rw [e] at z; cases z
theorem noCode_dK {H : Hp} {p : Addr} {xs : List (Key × V)} (e : H p = some (.dK xs)) : NoCode H p := fun q z => by rw [e] at z; cases z
theorem noCode_ins {H : Hp} {p C : Addr} {dx} {xs} (e : H p = some (.ins C dx xs)) : NoCode H p := fun q z => by rw [e] at z; cases z
/-- any other kind of object -/
structure MR where
  rel : PySem.W.Frag → Hp → Hp → Addr → Prop
  there : ∀ {K : PySem.W.Frag} {H0 H : Hp} {a : Addr}, rel K H0 H a → H a ≠ none
  keep : ∀ {K : PySem.W.Frag} {H0 H H0' H' : Hp} {a : Addr}, rel K H0 H a → Sub H0 H0' → H' a = H a → KeepC H H' → rel K H0' H' a
  noE : ∀ {K : PySem.W.Frag} {H0 H : Hp} {a : Addr}, rel K H0 H a → NoCode H a
inductive MO where
  | src | lst (xs : List D) | ins (c : Str) (fs : List (Str × D)) | tab (q : Str) | own (ρ : MR)
abbrev Sto := Addr → Option MO
def Sto.up (S : Sto) (a : Addr) (m : MO) : Sto := fun b => if b = a then some m else S b
/-- how large a source's first number may be -/
def srcBits : Nat := 1048600
def RpM (K : PySem.W.Frag) (H0 H : Hp) (a : Addr) : MO → Prop
  | .src => ∃ c s : Int, H a = some (.lst [.int c, .int s]) ∧ 0 ≤ c ∧ c < 2 ^ srcBits ∧ 0 ≤ s ∧ s < 2147483648
  | .lst ds => ∃ xs, H a = some (.lst xs) ∧ Rps K H0 xs ds
  | .ins c fs => ∃ dx vs, H a = some (.ins (He.ga K c) dx vs) ∧ vs.map (·.1) = fs.map (·.1) ∧ Rps K H0 (vs.map (·.2)) (fs.map (·.2))
  | .tab q => LamX.TabS H a q
  | .own ρ => ρ.rel K H0 H a
theorem RpM.there {K : PySem.W.Frag} {H0 H : Hp} {a : Addr} {m : MO} (h : RpM K H0 H a m) : H a ≠ none := by
  cases m with
  | src => obtain ⟨c, s, e, _⟩ := h; rw [e]; exact fun z => nomatch z
  | lst ds => obtain ⟨xs, e, _⟩ := h; rw [e]; exact fun z => nomatch z
  | ins C fs => obtain ⟨dx, vs, e, _⟩ := h; rw [e]; exact fun z => nomatch z
  | tab q => obtain ⟨ps, e, _⟩ := h; rw [e]; exact fun z => nomatch z
  | own ρ => exact ρ.there h
theorem RpM.noE {K : PySem.W.Frag} {H0 H : Hp} {a : Addr} {m : MO} (h : RpM K H0 H a m) : NoCode H a := by
  cases m with
  | src => obtain ⟨c, s, e, _⟩ := h; exact noCode_lst e
  | lst ds => obtain ⟨xs, e, _⟩ := h; exact noCode_lst e
  | ins C fs => obtain ⟨dx, vs, e, _⟩ := h; exact noCode_ins e
  | tab q => obtain ⟨ps, e, _⟩ := h; exact fun φ z => by rw [e] at z; cases z
  | own ρ => exact ρ.noE h
theorem RpM.keep {K : PySem.W.Frag} {H0 H H0' H' : Hp} {a : Addr} {m : MO} (h : RpM K H0 H a m) (e0 : Sub H0 H0') (e : H' a = H a) (ek : KeepC H H') : RpM K H0' H' a m := by
  cases m with
  | src => obtain ⟨c, s, q, r⟩ := h; exact ⟨c, s, e.trans q, r⟩
  | lst ds => obtain ⟨xs, q, r⟩ := h; exact ⟨xs, e.trans q, r.sub e0⟩
  | ins C fs => obtain ⟨dx, vs, q, r, t⟩ := h; exact ⟨dx, vs, e.trans q, r, t.sub e0⟩
  | tab q => obtain ⟨ps, h1, h2, h3⟩ := h; exact ⟨ps, e.trans h1, h2, fun pos cv hc => by obtain ⟨c, e1, e2⟩ := h3 pos cv hc; exact ⟨c, e1, ek _ _ e2⟩⟩
  | own ρ => exact ρ.keep h e0 e ek

/-- H the heap, H0 the part that stays for good, S the objects that may change -/
structure StR (K : PySem.W.Frag) (H H0 : Hp) (S : Sto) : Prop where
  sub : Sub H0 H
  nos : ∀ a, S a ≠ none → H0 a = none
  sto : ∀ a m, S a = some m → RpM K H0 H a m
/-- what a step may do -/
structure Grow (H H0 : Hp) (S : Sto) (H' H0' : Hp) (S' : Sto) : Prop where
  keep : ∀ a o, H a = some o → S a = none → H' a = some o
  old : ∀ a, H0 a = none → H a ≠ none → H0' a = none
  sub : Sub H0 H0'
  more : ∀ a, S a ≠ none → S' a ≠ none
  new : ∀ a, S' a ≠ none → S a ≠ none ∨ H a = none
theorem Grow.refl (H H0 : Hp) (S : Sto) : Grow H H0 S H H0 S := ⟨fun _ _ h _ => h, fun _ h _ => h, fun _ _ h => h, fun _ h => h, fun _ h => .inl h⟩
theorem Grow.isN {H H0 : Hp} {S : Sto} {H' H0' : Hp} {S' : Sto} (g : Grow H H0 S H' H0' S') {a : Addr} (h : S a = none) (h' : H a ≠ none) : S' a = none := by
  cases e : S' a with
  | none => rfl
  | some m =>
    rcases g.new a (by rw [e]; exact fun z => nomatch z) with z | z
    · exact absurd h z
    · exact absurd z h'
/-- what was there is there -/
theorem Grow.there {K : PySem.W.Frag} {H H0 : Hp} {S : Sto} {H' H0' : Hp} {S' : Sto} (g : Grow H H0 S H' H0' S') (s' : StR K H' H0' S') {a : Addr} (h : H a ≠ none) : H' a ≠ none := by
  cases e : S a with
  | none =>
    cases q : H a with
    | none => exact absurd q h
    | some o => rw [g.keep a o q e]; exact fun z => nomatch z
  | some m =>
    have q := g.more a (by rw [e]; exact fun z => nomatch z)
    cases r : S' a with
    | none => exact absurd r q
    | some m' => exact (s'.sto a m' r).there
theorem Grow.trans {K : PySem.W.Frag} {H H0 : Hp} {S : Sto} {H1 H01 : Hp} {S1 : Sto} {H2 H02 : Hp} {S2 : Sto} (s1 : StR K H1 H01 S1) (a : Grow H H0 S H1 H01 S1) (b : Grow H1 H01 S1 H2 H02 S2) : Grow H H0 S H2 H02 S2 where
  keep := fun c o h n => b.keep c o (a.keep c o h n) (a.isN n (by rw [h]; exact fun z => nomatch z))
  old := fun c h n => b.old c (a.old c h n) (a.there s1 n)
  sub := fun c o h => b.sub c o (a.sub c o h)
  more := fun c h => b.more c (a.more c h)
  new := fun c h => by
    rcases b.new c h with z | z
    · exact a.new c z
    · refine .inr ?_
      cases q : H c with
      | none => rfl
      | some o => exact absurd z (a.there s1 (by rw [q]; exact fun z => nomatch z))

/-! ### slots -/
inductive Sl where
  | un | va (d : D) | ow (xs : List D) | od (ks : List Str) (xs : List D)
abbrev Sg := List Sl
def owns : Sl → Bool
  | .ow _ => true
  | .od _ _ => true
  | _ => false
def RpS (K : PySem.W.Frag) (H H0 : Hp) (S : Sto) (o : Option (Option V)) : Sl → Prop
  | .un => True
  | .va d => ∃ v, o = some (some v) ∧ Rp K H0 v d
  | .ow ds => ∃ p xs, o = some (some (.ref p)) ∧ H p = some (.lst xs) ∧ H0 p = none ∧ S p = none ∧ Rps K H0 xs ds
  | .od ks ds => ∃ p kvs, o = some (some (.ref p)) ∧ H p = some (.dK kvs) ∧ H0 p = none ∧ S p = none ∧ kvs.map (·.1) = ks.map Sum.inr ∧ Rps K H0 (kvs.map (·.2)) ds
theorem RpS.grow {K : PySem.W.Frag} {H H0 : Hp} {S : Sto} {H' H0' : Hp} {S' : Sto} (g : Grow H H0 S H' H0' S') {o : Option (Option V)} {s : Sl} (h : RpS K H H0 S o s) : RpS K H' H0' S' o s := by
  cases s with
  | un => trivial
  | va d => obtain ⟨v, e, r⟩ := h; exact ⟨v, e, r.sub g.sub⟩
  | ow ds =>
    obtain ⟨p, xs, e, h1, h2, h3, r⟩ := h
    have nn : H p ≠ none := by rw [h1]; exact fun z => nomatch z
    exact ⟨p, xs, e, g.keep p _ h1 h3, g.old p h2 nn, g.isN h3 nn, r.sub g.sub⟩
  | od ks ds =>
    obtain ⟨p, xs, e, h1, h2, h3, k, r⟩ := h
    have nn : H p ≠ none := by rw [h1]; exact fun z => nomatch z
    exact ⟨p, xs, e, g.keep p _ h1 h3, g.old p h2 nn, g.isN h3 nn, k, r.sub g.sub⟩
structure Rel (K : PySem.W.Frag) (σ : L2.St) (H H0 : Hp) (S : Sto) (g : Sg) : Prop where
  st : StR K H H0 S
  len : σ.length = g.length
  sl : ∀ (i : Nat) s, g[i]? = some s → RpS K H H0 S σ[i]? s
  di : ∀ (i j : Nat) si sj p, i ≠ j → g[i]? = some si → g[j]? = some sj → owns si = true → owns sj = true → σ[i]? = some (some (.ref p)) → σ[j]? ≠ some (some (.ref p))
theorem Rel.grow {K : PySem.W.Frag} {σ : L2.St} {H H0 : Hp} {S : Sto} {g : Sg} {H' H0' : Hp} {S' : Sto} (r : Rel K σ H H0 S g) (s' : StR K H' H0' S') (w : Grow H H0 S H' H0' S') : Rel K σ H' H0' S' g :=
  ⟨s', r.len, fun i s h => (r.sl i s h).grow w, r.di⟩

/-! ### programs over data -/
structure Xn where
  cls : Str
  fs : List (Str × D)
/-- what must hold ahead, for what is wanted behind -/
def T (α : Type) := Sto → (α → Sto → Prop) → (Xn → Sto → Prop) → Prop
namespace T
def pure {α : Type} (a : α) : T α := fun S Q _ => Q a S
def bind {α β : Type} (m : T α) (f : α → T β) : T β := fun S Q E => m S (fun a S' => f a S' Q E) E
def fail {α : Type} : T α := fun _ _ _ => False
def raise {α : Type} (x : Xn) : T α := fun S _ E => E x S
theorem ite_ex {α : Type} : ∃ f : Bool → T α → T α → T α, (∀ a b, f true a b = a) ∧ ∀ a b, f false a b = b := ⟨fun k a b => match k with
  | true => a
  | false => b, fun _ _ => rfl, fun _ _ => rfl⟩
noncomputable def ite {α : Type} : Bool → T α → T α → T α := Classical.choose ite_ex
theorem iteT {α : Type} {a b : T α} {S : Sto} {Q : α → Sto → Prop} {E : Xn → Sto → Prop} (h : ite true a b S Q E) : a S Q E := by
  have e : ite true a b = a := (Classical.choose_spec ite_ex).1 a b
  rw [e] at h; exact h
theorem iteF {α : Type} {a b : T α} {S : Sto} {Q : α → Sto → Prop} {E : Xn → Sto → Prop} (h : ite false a b S Q E) : b S Q E := by
  have e : ite false a b = b := (Classical.choose_spec ite_ex).2 a b
  rw [e] at h; exact h
theorem iteT_ {α : Type} {a b : T α} {S : Sto} {Q : α → Sto → Prop} {E : Xn → Sto → Prop} (h : a S Q E) : ite true a b S Q E := by
  have e : ite true a b = a := (Classical.choose_spec ite_ex).1 a b
  rw [e]; exact h
theorem iteF_ {α : Type} {a b : T α} {S : Sto} {Q : α → Sto → Prop} {E : Xn → Sto → Prop} (h : b S Q E) : ite false a b S Q E := by
  have e : ite false a b = b := (Classical.choose_spec ite_ex).2 a b
  rw [e]; exact h
end T
def RpX (K : PySem.W.Frag) (H0 H : Hp) (x : Xn) (o : Option Addr) : Prop := (x.fs = [] ∧ o = none) ∨ x.fs ≠ [] ∧ ∃ d vs, o = some d ∧ H d = some (.xd vs) ∧ vs.map (·.1) = x.fs.map (·.1) ∧ Rps K H0 (vs.map (·.2)) (x.fs.map (·.2))
/-- the wish about exceptions, in data -/
def EX (K : PySem.W.Frag) (E : XK) (H H0 : Hp) (S : Sto) : Xn → Sto → Prop := fun x S' => ∀ o H' H0', StR K H' H0' S' → Grow H H0 S H' H0' S' → RpX K H0' H' x o → E (.ref (He.ga K x.cls)) o H'
theorem EX.grow {K : PySem.W.Frag} {E : XK} {H H0 : Hp} {S : Sto} {H1 H01 : Hp} {S1 : Sto} (s1 : StR K H1 H01 S1) (g : Grow H H0 S H1 H01 S1) {x : Xn} {S' : Sto} (h : EX K E H H0 S x S') : EX K E H1 H01 S1 x S' :=
  fun o H' H0' s' g' r => h o H' H0' s' (g.trans s1 g') r

/-! ### results -/
abbrev RR := Hp → Hp → Hp → Sto → V → D → Prop
/-- a result that stays -/
def RF (K : PySem.W.Frag) : RR := fun _ _ H0' _ v d => Rp K H0' v d
/-- a list or dict that may be read now -/
def RB (K : PySem.W.Frag) : RR := fun _ H' H0' S' v d => Rp K H0' v d ∨ (∃ p xs ds, v = .ref p ∧ d = .lst ds ∧ H' p = some (.lst xs) ∧ S' p = none ∧ Rps K H0' xs ds) ∨
  ∃ p kvs ks ds, v = .ref p ∧ d = .dic ks ds ∧ H' p = some (.dK kvs) ∧ S' p = none ∧ kvs.map (·.1) = ks.map Sum.inr ∧ Rps K H0' (kvs.map (·.2)) ds
/-- a list or dict that was just made -/
def RN (K : PySem.W.Frag) : RR := fun H H' H0' S' v d => (∃ p xs ds, v = .ref p ∧ d = .lst ds ∧ H p = none ∧ H' p = some (.lst xs) ∧ H0' p = none ∧ S' p = none ∧ Rps K H0' xs ds) ∨
  ∃ p kvs ks ds, v = .ref p ∧ d = .dic ks ds ∧ H p = none ∧ H' p = some (.dK kvs) ∧ H0' p = none ∧ S' p = none ∧ kvs.map (·.1) = ks.map Sum.inr ∧ Rps K H0' (kvs.map (·.2)) ds
abbrev ME := Sg → T D
abbrev MA := Sg → T (List D)
abbrev MT := Sg → T Bool
def lf (K : PySem.W.Frag) (E : XK) (R : RR) (m : ME) : TE := fun σ H Q => ∃ g S H0 Qd Ed, Rel K σ H H0 S g ∧ m g S Qd Ed ∧
  (∀ d S', Qd d S' → ∀ v H' H0', StR K H' H0' S' → Grow H H0 S H' H0' S' → R H H' H0' S' v d → Q v H') ∧ ∀ x S', Ed x S' → EX K E H H0 S x S'
def lt (K : PySem.W.Frag) (E : XK) (m : MT) : TT := fun σ H Q => ∃ g S H0 Qd Ed, Rel K σ H H0 S g ∧ m g S Qd Ed ∧
  (∀ b S', Qd b S' → ∀ H' H0', StR K H' H0' S' → Grow H H0 S H' H0' S' → Q b H') ∧ ∀ x S', Ed x S' → EX K E H H0 S x S'
/-- borrowed arguments -/
inductive RBs (K : PySem.W.Frag) (H' H0' : Hp) (S' : Sto) : List V → List D → Prop
  | nil : RBs K H' H0' S' [] []
  | cons {v : V} {vs : List V} {d : D} {ds : List D} : RB K H' H' H0' S' v d → RBs K H' H0' S' vs ds → RBs K H' H0' S' (v :: vs) (d :: ds)
def la (K : PySem.W.Frag) (E : XK) (m : MA) : TA := fun σ H Q => ∃ g S H0 Qd Ed, Rel K σ H H0 S g ∧ m g S Qd Ed ∧
  (∀ ds S', Qd ds S' → ∀ vs H' H0', StR K H' H0' S' → Grow H H0 S H' H0' S' → Rps K H0' vs ds → Q vs H') ∧ ∀ x S', Ed x S' → EX K E H H0 S x S'
def lab (K : PySem.W.Frag) (E : XK) (m : MA) : TA := fun σ H Q => ∃ g S H0 Qd Ed, Rel K σ H H0 S g ∧ m g S Qd Ed ∧
  (∀ ds S', Qd ds S' → ∀ vs H' H0', StR K H' H0' S' → Grow H H0 S H' H0' S' → RBs K H' H0' S' vs ds → Q vs H') ∧ ∀ x S', Ed x S' → EX K E H H0 S x S'
abbrev XE (X : Cx) (E : XK) (e : Expr) (m : ME) : Prop := PE X e (lf X.K E (RF X.K) m)
abbrev XB (X : Cx) (E : XK) (e : Expr) (m : ME) : Prop := PE X e (lf X.K E (RB X.K) m)
abbrev XN (X : Cx) (E : XK) (e : Expr) (m : ME) : Prop := PE X e (lf X.K E (RN X.K) m)
abbrev XT (X : Cx) (E : XK) (e : Expr) (m : MT) : Prop := PT X e (lt X.K E m)
abbrev XA (X : Cx) (E : XK) (es : List Expr) (m : MA) : Prop := PA X es (la X.K E m)
abbrev XAB (X : Cx) (E : XK) (es : List Expr) (m : MA) : Prop := PA X es (lab X.K E m)
/-! ### weaker readings -/
theorem pe_w {X : Cx} {e : Expr} {t t' : TE} (h : PE X e t) (w : ∀ σ H Q, t' σ H Q → t σ H Q) : PE X e t' := ⟨fun pins s σ H Q I q => h.run pins s σ H Q I (w σ H Q q)⟩
theorem pt_w {X : Cx} {e : Expr} {t t' : TT} (h : PT X e t) (w : ∀ σ H Q, t' σ H Q → t σ H Q) : PT X e t' := ⟨fun pins s σ H Q I q => h.run pins s σ H Q I (w σ H Q q)⟩
theorem pw_w {X : Cx} {e : Expr} {t t' : TT} (h : PW X e t) (w : ∀ σ H Q, t' σ H Q → t σ H Q) : PW X e t' := ⟨fun wh pins s σ H Q I q => h.run wh pins s σ H Q I (w σ H Q q)⟩
theorem pa_w {X : Cx} {e : List Expr} {t t' : TA} (h : PA X e t) (w : ∀ σ H Q, t' σ H Q → t σ H Q) : PA X e t' := ⟨fun pos pins s σ H Q I q => h.run pos pins s σ H Q I (w σ H Q q)⟩
theorem ps_w {X : Cx} {e : Stmt} {t t' : TS} (h : PS X e t) (w : ∀ D σ H, t' D σ H → t D σ H) : PS X e t' := ⟨fun pins s σ H D I q => h.run pins s σ H D I (w D σ H q)⟩
theorem pss_w {X : Cx} {e : List Stmt} {t t' : TS} (h : PSs X e t) (w : ∀ D σ H, t' D σ H → t D σ H) : PSs X e t' := ⟨fun pins s σ H D I q => h.run pins s σ H D I (w D σ H q)⟩
/-! ### results persist -/
theorem RB.grow {K : PySem.W.Frag} {Ha Hb H H0 : Hp} {S : Sto} {H' H0' : Hp} {S' : Sto} (g : Grow H H0 S H' H0' S') {v : V} {d : D} (h : RB K Ha H H0 S v d) : RB K Hb H' H0' S' v d := by
  rcases h with h | ⟨p, xs, ds, e1, e2, h1, h2, r⟩ | ⟨p, kvs, ks, ds, e1, e2, h1, h2, k, r⟩
  · exact .inl (Rp.sub g.sub h)
  · exact .inr (.inl ⟨p, xs, ds, e1, e2, g.keep p _ h1 h2, g.isN h2 (by rw [h1]; exact fun z => nomatch z), r.sub g.sub⟩)
  · exact .inr (.inr ⟨p, kvs, ks, ds, e1, e2, g.keep p _ h1 h2, g.isN h2 (by rw [h1]; exact fun z => nomatch z), k, r.sub g.sub⟩)
/-- what is just made, seen from further back -/
theorem RN.back {K : PySem.W.Frag} {H H0 : Hp} {S : Sto} {H1 H01 : Hp} {S1 : Sto} (s1 : StR K H1 H01 S1) (g : Grow H H0 S H1 H01 S1) {H' H0' : Hp} {S' : Sto} {v : V} {d : D} (h : RN K H1 H' H0' S' v d) : RN K H H' H0' S' v d := by
  have nn : ∀ p, H1 p = none → H p = none := fun p e => by
    cases q : H p with
    | none => rfl
    | some o => exact absurd e (g.there s1 (by rw [q]; exact fun z => nomatch z))
  rcases h with ⟨p, xs, ds, e1, e2, h0, r⟩ | ⟨p, kvs, ks, ds, e1, e2, h0, r⟩
  · exact .inl ⟨p, xs, ds, e1, e2, nn p h0, r⟩
  · exact .inr ⟨p, kvs, ks, ds, e1, e2, nn p h0, r⟩
/-- an R that may be seen from further back -/
def Back (K : PySem.W.Frag) (R : RR) : Prop := ∀ {H H0 : Hp} {S : Sto} {H1 H01 : Hp} {S1 : Sto}, StR K H1 H01 S1 → Grow H H0 S H1 H01 S1 → ∀ {H' H0' : Hp} {S' : Sto} {v : V} {d : D}, R H1 H' H0' S' v d → R H H' H0' S' v d
theorem back_F {K : PySem.W.Frag} : Back K (RF K) := fun _ _ _ _ _ _ _ h => h
theorem back_B {K : PySem.W.Frag} : Back K (RB K) := fun _ _ _ _ _ _ _ h => h
theorem back_N {K : PySem.W.Frag} : Back K (RN K) := fun s g _ _ _ _ _ h => RN.back s g h
/-! ### a new object -/
theorem alloc_f {K : PySem.W.Frag} {H H0 : Hp} {S : Sto} (st : StR K H H0 S) {p : Addr} (hp : H p = none) (o : HO) : StR K (upd H p o) (upd H0 p o) S ∧ Grow H H0 S (upd H p o) (upd H0 p o) S := by
  have n0 : H0 p = none := by
    cases q : H0 p with
    | none => rfl
    | some u => rw [st.sub p u q] at hp; cases hp
  have nS : S p = none := by
    cases q : S p with
    | none => rfl
    | some m => exact absurd hp (st.sto p m q).there
  have s0 : Sub H0 (upd H0 p o) := fun a u e => by rw [upd_ne (ne_of_none e n0)]; exact e
  refine ⟨⟨fun a u e => ?_, fun a n => ?_, fun a m e => ?_⟩, ⟨fun a u e _ => ?_, fun a e n => ?_, s0, fun a h => h, fun a h => .inl h⟩⟩
  · by_cases ha : a = p
    · subst ha; rw [upd_same] at e ⊢; exact e
    · rw [upd_ne ha] at e ⊢; exact st.sub a u e
  · have ha : a ≠ p := fun z => n (by rw [z]; exact nS)
    rw [upd_ne ha]; exact st.nos a n
  · have ha : a ≠ p := fun z => by rw [z, nS] at e; cases e
    exact (st.sto a m e).keep s0 (upd_ne ha) (keepC_new hp o)
  · rw [upd_ne (ne_of_none e hp)]; exact e
  · have ha : a ≠ p := fun z => n (by rw [z]; exact hp)
    rw [upd_ne ha]; exact e
theorem alloc_n {K : PySem.W.Frag} {H H0 : Hp} {S : Sto} (st : StR K H H0 S) {p : Addr} (hp : H p = none) (o : HO) : StR K (upd H p o) H0 S ∧ Grow H H0 S (upd H p o) H0 S ∧ H0 p = none ∧ S p = none := by
  have n0 : H0 p = none := by
    cases q : H0 p with
    | none => rfl
    | some u => rw [st.sub p u q] at hp; cases hp
  have nS : S p = none := by
    cases q : S p with
    | none => rfl
    | some m => exact absurd hp (st.sto p m q).there
  refine ⟨⟨fun a u e => ?_, st.nos, fun a m e => ?_⟩, ⟨fun a u e _ => ?_, fun a e n => e, fun _ _ e => e, fun a h => h, fun a h => .inl h⟩, n0, nS⟩
  · have ha : a ≠ p := ne_of_none e n0
    rw [upd_ne ha]; exact st.sub a u e
  · have ha : a ≠ p := fun z => by rw [z, nS] at e; cases e
    exact (st.sto a m e).keep (fun _ _ q => q) (upd_ne ha) (keepC_new hp o)
  · rw [upd_ne (ne_of_none e hp)]; exact e
/-- a list that was just made becomes one that stays -/
theorem freeze {K : PySem.W.Frag} {H H0 : Hp} {S : Sto} (st : StR K H H0 S) {p : Addr} {o : HO} (hp : H p = some o) (n0 : H0 p = none) (nS : S p = none) : StR K H (upd H0 p o) S ∧ Sub H0 (upd H0 p o) := by
  have s0 : Sub H0 (upd H0 p o) := fun a u e => by rw [upd_ne (ne_of_none e n0)]; exact e
  refine ⟨⟨fun a u e => ?_, fun a n => ?_, fun a m e => (st.sto a m e).keep s0 rfl (fun _ _ q => q)⟩, s0⟩
  · by_cases ha : a = p
    · subst ha; rw [upd_same] at e; rw [hp]; exact e
    · rw [upd_ne ha] at e; exact st.sub a u e
  · have ha : a ≠ p := fun z => n (by rw [z]; exact nS)
    rw [upd_ne ha]; exact st.nos a n
/-- just made: it stays -/
theorem XN.stay {X : Cx} {E : XK} {e : Expr} {m : ME} (h : XN X E e m) : XE X E e m := by
  refine pe_w h fun σ H Q ⟨g, S, H0, Qd, Ed, rel, hm, hq, he⟩ => ⟨g, S, H0, Qd, Ed, rel, hm, fun d S' q v H' H0' st gr r => ?_, he⟩
  rcases r with ⟨p, xs, ds, e1, e2, h0, h1, h2, h3, r⟩ | ⟨p, kvs, ks, ds, e1, e2, h0, h1, h2, h3, k, r⟩
  · subst e1 e2
    obtain ⟨st', s0⟩ := freeze st h1 h2 h3
    refine hq _ S' q _ H' _ st' ⟨gr.keep, fun a ha n => ?_, fun a o e => s0 a o (gr.sub a o e), gr.more, gr.new⟩ (.lst upd_same (r.sub s0))
    have hne : a ≠ p := fun z => n (by rw [z]; exact h0)
    rw [upd_ne hne]
    exact gr.old a ha n
  · subst e1 e2
    obtain ⟨st', s0⟩ := freeze st h1 h2 h3
    refine hq _ S' q _ H' _ st' ⟨gr.keep, fun a ha n => ?_, fun a o e => s0 a o (gr.sub a o e), gr.more, gr.new⟩ (.dic upd_same k (r.sub s0))
    have hne : a ≠ p := fun z => n (by rw [z]; exact h0)
    rw [upd_ne hne]
    exact gr.old a ha n
theorem XE.bor {X : Cx} {E : XK} {e : Expr} {m : ME} (h : XE X E e m) : XB X E e m :=
  pe_w h fun σ H Q ⟨g, S, H0, Qd, Ed, rel, hm, hq, he⟩ => ⟨g, S, H0, Qd, Ed, rel, hm, fun d S' q v H' H0' st gr r => hq d S' q v H' H0' st gr (.inl r), he⟩
theorem XN.bor {X : Cx} {E : XK} {e : Expr} {m : ME} (h : XN X E e m) : XB X E e m := h.stay.bor
end DL

set_option Elab.async false
set_option linter.all false
set_option maxRecDepth 100000
set_option maxHeartbeats 4000000
namespace DL
open PySem PySem.Spec PyProof.Rows L2

/-! ### names, constants -/
def getv (g : Sg) (i : Nat) : T D := match g[i]? with
  | some (.va d) => T.pure d
  | _ => T.fail
def getb (g : Sg) (i : Nat) : T D := match g[i]? with
  | some (.va d) => T.pure d
  | some (.ow xs) => T.pure (.lst xs)
  | some (.od ks xs) => T.pure (.dic ks xs)
  | _ => T.fail
theorem getv_inv {g : Sg} {i : Nat} {S : Sto} {Qd : D → Sto → Prop} {Ed : Xn → Sto → Prop} (h : getv g i S Qd Ed) : ∃ d, g[i]? = some (.va d) ∧ Qd d S := by
  unfold getv at h
  cases hg : g[i]? with
  | none => rw [hg] at h; exact h.elim
  | some s =>
    rw [hg] at h
    cases s with
    | va d => exact ⟨d, rfl, h⟩
    | un => exact h.elim
    | ow xs => exact h.elim
    | od ks xs => exact h.elim
theorem getb_inv {g : Sg} {i : Nat} {S : Sto} {Qd : D → Sto → Prop} {Ed : Xn → Sto → Prop} (h : getb g i S Qd Ed) :
    (∃ d, g[i]? = some (.va d) ∧ Qd d S) ∨ (∃ xs, g[i]? = some (.ow xs) ∧ Qd (.lst xs) S) ∨ ∃ ks xs, g[i]? = some (.od ks xs) ∧ Qd (.dic ks xs) S := by
  unfold getb at h
  cases hg : g[i]? with
  | none => rw [hg] at h; exact h.elim
  | some s =>
    rw [hg] at h
    cases s with
    | va d => exact .inl ⟨d, rfl, h⟩
    | un => exact h.elim
    | ow xs => exact .inr (.inl ⟨xs, rfl, h⟩)
    | od ks xs => exact .inr (.inr ⟨ks, xs, rfl, h⟩)
section
variable {X : Cx} {E : XK} {e a b : Expr} {pos : Pos}
theorem x_var (i : Nat) {x : Str} (hN : X.N[i]? = some x := by rfl) (hv : Vis X.env.scope x := by first | exact Or.inl rfl | exact Or.inr (Or.inl rfl) | exact Or.inr (Or.inr rfl)) (hd : (x == ("__debug__" : Str)) = false := by decide)
    (hcd : (x == ("__classdict__" : Str)) = false := by decide) : XE X E (.Name x pos) (fun g => getv g i) := by
  refine pe_w (pe_var hN hv hd hcd) fun σ H Q ⟨g, S, H0, Qd, Ed, rel, hm, hq, he⟩ => ?_
  obtain ⟨d, hg, hm⟩ := getv_inv hm
  obtain ⟨v, e1, r⟩ := rel.sl i _ hg
  exact ⟨v, e1, hq d S hm v H H0 rel.st (Grow.refl _ _ _) r⟩
theorem x_varB (i : Nat) {x : Str} (hN : X.N[i]? = some x := by rfl) (hv : Vis X.env.scope x := by first | exact Or.inl rfl | exact Or.inr (Or.inl rfl) | exact Or.inr (Or.inr rfl)) (hd : (x == ("__debug__" : Str)) = false := by decide)
    (hcd : (x == ("__classdict__" : Str)) = false := by decide) : XB X E (.Name x pos) (fun g => getb g i) := by
  refine pe_w (pe_var hN hv hd hcd) fun σ H Q ⟨g, S, H0, Qd, Ed, rel, hm, hq, he⟩ => ?_
  rcases getb_inv hm with ⟨d, hg, hm⟩ | ⟨d, hg, hm⟩ | ⟨ks, d, hg, hm⟩
  · obtain ⟨v, e1, r⟩ := rel.sl i _ hg
    exact ⟨v, e1, hq d S hm v H H0 rel.st (Grow.refl _ _ _) (.inl r)⟩
  · obtain ⟨p, xs, e1, h1, h2, h3, r⟩ := rel.sl i _ hg
    exact ⟨_, e1, hq _ S hm _ H H0 rel.st (Grow.refl _ _ _) (.inr (.inl ⟨p, xs, d, rfl, rfl, h1, h3, r⟩))⟩
  · obtain ⟨p, kvs, e1, h1, h2, h3, k, r⟩ := rel.sl i _ hg
    exact ⟨_, e1, hq _ S hm _ H H0 rel.st (Grow.refl _ _ _) (.inr (.inr ⟨p, kvs, ks, d, rfl, rfl, h1, h3, k, r⟩))⟩
theorem x_c {v : V} {d : D} (h : PE X e (tC v)) (r : ∀ H0, Rp X.K H0 v d) : XE X E e (fun _ => T.pure d) :=
  pe_w h fun σ H Q ⟨g, S, H0, Qd, Ed, rel, hm, hq, he⟩ => hq d S hm v H H0 rel.st (Grow.refl _ _ _) (r H0)
theorem x_int {i j} : XE X E (.Constant (.int i) j pos) (fun _ => T.pure (.int i)) := x_c pe_int fun _ => .int i
theorem x_bl {i j} : XE X E (.Constant (.bool i) j pos) (fun _ => T.pure (.bl i)) := x_c pe_bl fun _ => .bl i
theorem x_non {j} : XE X E (.Constant .none j pos) (fun _ => T.pure .non) := x_c pe_non fun _ => .non
theorem x_str {i j} : XE X E (.Constant (.str i) j pos) (fun _ => T.pure (.str i)) := x_c pe_str fun _ => .str i
theorem x_glo {x : Str} (hm : X.mg x = some (.ref (He.ga X.K x))) (hg : Gl X x := by rfl) (hd : (x == ("__debug__" : Str)) = false := by decide) : XE X E (.Name x pos) (fun _ => T.pure (.glo x)) := x_c (pe_glob hg hm (v := .ref (He.ga X.K x)) rfl hd) fun _ => .glo x
theorem x_gstr {x z : Str} {t : Tok} (hm : X.mg x = some (.str z t)) (hg : Gl X x := by rfl) (hd : (x == ("__debug__" : Str)) = false := by decide) : XE X E (.Name x pos) (fun _ => T.pure (.str z)) := x_c (pe_glob hg hm (v := .str z) ⟨t, rfl⟩ hd) fun _ => .str z
theorem x_gint {x : Str} {z : Int} {t : Tok} (hm : X.mg x = some (.int z t)) (hg : Gl X x := by rfl) (hd : (x == ("__debug__" : Str)) = false := by decide) : XE X E (.Name x pos) (fun _ => T.pure (.int z)) := x_c (pe_glob hg hm (v := .int z) ⟨t, rfl⟩ hd) fun _ => .int z
theorem x_ty {x : Str} {n : String} (hm : X.mg x = none) (hv : bootBuiltins x = some (.type n) := by decide +kernel) (hg : Gl X x := by rfl) (hn : x ≠ "__name__" := by decide) (hd : (x == ("__debug__" : Str)) = false := by decide) : XE X E (.Name x pos) (fun _ => T.pure (.ty n)) :=
  x_c (pe_bltn hg hm hv (v := .ty n) rfl hn hd) fun _ => .ty n
/-- a tuple of texts of the module -/
def TupK (K : PySem.W.Frag) (a : Addr) (ss : List Str) : Prop := ∃ (o : Obj) (its : Array Value) (n : Nat), K.lookup a = some o ∧ o.cls = .type "tuple" ∧ o.data = .seq its n ∧ its.size ≤ sizeLine ∧ Vals (ss.map V.str) its.toList
theorem x_gtup {x : Str} {a : Addr} {ss : List Str} (hm : X.mg x = some (.ref a)) (hk : TupK X.K a ss) (hg : Gl X x := by rfl) (hd : (x == ("__debug__" : Str)) = false := by decide) : XE X E (.Name x pos) (fun _ => T.pure (.tup (ss.map D.str))) :=
  x_c (pe_glob hg hm (v := .ref a) rfl hd) fun _ => .tup (.inr hk) (Rps.ofStrs ss)

/-! ### argument lists, displays -/
def args0 : MA := fun _ => T.pure []
def argsC (m : ME) (r : MA) : MA := fun g => T.bind (m g) fun x => T.bind (r g) fun xs => T.pure (x :: xs)
theorem a_nil : XA X E [] args0 := pa_w pa_nil fun σ H Q ⟨g, S, H0, Qd, Ed, rel, hm, hq, he⟩ => hq [] S hm [] H H0 rel.st (Grow.refl _ _ _) .nil
theorem a_cons {es : List Expr} {m : ME} {r : MA} (ha : XE X E e m) (hr : XA X E es r) (hs : starEach (e :: es) X.env = (false, eval e X.env) :: starEach es X.env := by rfl) : XA X E (e :: es) (argsC m r) := by
  refine pa_w (pa_cons ha hr hs) fun σ H Q ⟨g, S, H0, Qd, Ed, rel, hm, hq, he⟩ => ?_
  refine ⟨g, S, H0, _, Ed, rel, hm, fun a S1 hf v H1 H01 st1 gr1 r1 => ?_, he⟩
  refine ⟨g, S1, H01, _, Ed, rel.grow st1 gr1, hf, fun b S2 hf2 w H2 H02 st2 gr2 r2 => ?_, fun x S' ex => (he x S' ex).grow st1 gr1⟩
  exact hq _ S2 hf2 _ H2 H02 st2 (gr1.trans st1 gr2) (.cons (Rp.sub gr2.sub r1) r2)
theorem ab_nil : XAB X E [] args0 := pa_w pa_nil fun σ H Q ⟨g, S, H0, Qd, Ed, rel, hm, hq, he⟩ => hq [] S hm [] H H0 rel.st (Grow.refl _ _ _) .nil
theorem RBs.grow {K : PySem.W.Frag} {H H0 : Hp} {S : Sto} {H' H0' : Hp} {S' : Sto} (g : Grow H H0 S H' H0' S') : ∀ {v : List V} {d : List D}, RBs K H H0 S v d → RBs K H' H0' S' v d
  | _, _, .nil => .nil
  | _, _, .cons a b => .cons (a.grow g) (RBs.grow g b)
theorem RBs.of {K : PySem.W.Frag} {H H0 : Hp} {S : Sto} : ∀ {v : List V} {d : List D}, Rps K H0 v d → RBs K H H0 S v d
  | _, _, .nil => .nil
  | _, _, .cons a b => .cons (.inl a) (RBs.of b)
theorem ab_cons {es : List Expr} {m : ME} {r : MA} (ha : XB X E e m) (hr : XAB X E es r) (hs : starEach (e :: es) X.env = (false, eval e X.env) :: starEach es X.env := by rfl) : XAB X E (e :: es) (argsC m r) := by
  refine pa_w (pa_cons ha hr hs) fun σ H Q ⟨g, S, H0, Qd, Ed, rel, hm, hq, he⟩ => ?_
  refine ⟨g, S, H0, _, Ed, rel, hm, fun a S1 hf v H1 H01 st1 gr1 r1 => ?_, he⟩
  refine ⟨g, S1, H01, _, Ed, rel.grow st1 gr1, hf, fun b S2 hf2 w H2 H02 st2 gr2 r2 => ?_, fun x S' ex => (he x S' ex).grow st1 gr1⟩
  exact hq _ S2 hf2 _ H2 H02 st2 (gr1.trans st1 gr2) (.cons (r1.grow gr2) r2)
def needSize (n : Nat) : T Unit := fun S Q _ => n ≤ sizeLine ∧ Q () S
theorem x_tup {es : List Expr} {m : MA} {k} (h : XA X E es m) : XE X E (.Tuple es k pos) (fun g => T.bind (m g) fun xs => T.bind (needSize xs.length) fun _ => T.pure (.tup xs)) := by
  refine pe_w (pe_tup h) fun σ H Q ⟨g, S, H0, Qd, Ed, rel, hm, hq, he⟩ => ?_
  refine ⟨g, S, H0, _, Ed, rel, hm, fun ds S1 hf vs H1 H01 st1 gr1 r1 => ?_, he⟩
  obtain ⟨hz, hf⟩ := hf
  refine ⟨by rw [r1.length]; exact hz, fun p hp => ?_⟩
  obtain ⟨st2, gr2⟩ := alloc_f st1 hp (.tup vs)
  exact hq _ S1 hf _ _ _ st2 (gr1.trans st1 gr2) (.tup (.of upd_same) (r1.sub gr2.sub))
theorem x_lst {es : List Expr} {m : MA} (h : XA X E es m) : XN X E (.List es pos) (fun g => T.bind (m g) fun xs => T.bind (needSize xs.length) fun _ => T.pure (.lst xs)) := by
  refine pe_w (pe_lst h) fun σ H Q ⟨g, S, H0, Qd, Ed, rel, hm, hq, he⟩ => ?_
  refine ⟨g, S, H0, _, Ed, rel, hm, fun ds S1 hf vs H1 H01 st1 gr1 r1 => ?_, he⟩
  obtain ⟨hz, hf⟩ := hf
  refine ⟨by rw [r1.length]; exact hz, fun p hp => ?_⟩
  obtain ⟨st2, gr2, n0, nS⟩ := alloc_n st1 hp (.lst vs)
  have nH : H p = none := by
    cases q : H p with
    | none => rfl
    | some o => exact absurd hp (gr1.there st1 (by rw [q]; exact fun z => nomatch z))
  exact hq _ S1 hf _ _ _ st2 (gr1.trans st1 gr2) (.inl ⟨p, vs, ds, rfl, rfl, nH, upd_same, n0, nS, r1.sub gr2.sub⟩)

/-! ### operators -/
/-- an operator's rule answers in data -/
def OpS (K : PySem.W.Frag) (R : RR) (r : R2) (f : D → D → T D) : Prop := ∀ (v w : V) (a b : D) (H H0 : Hp) (S : Sto) (Qd : D → Sto → Prop) (Ed : Xn → Sto → Prop) (Q : VK), StR K H H0 S → RB K H H H0 S v a → RB K H H H0 S w b → f a b S Qd Ed →
  (∀ d S', Qd d S' → ∀ u H' H0', StR K H' H0' S' → Grow H H0 S H' H0' S' → R H H' H0' S' u d → Q u H') → r v w H Q
theorem opS_lf {K : PySem.W.Frag} {R : RR} {r : R2} {f : D → D → T D} {ma mb : ME} (bk : Back K R) (hs : OpS K R r f) {σ : L2.St} {H : Hp} {Q : VK} (h : lf K E R (fun g => T.bind (ma g) fun x => T.bind (mb g) fun y => f x y) σ H Q) :
    tOp r (lf K E (RB K) ma) (lf K E (RB K) mb) σ H Q := by
  obtain ⟨g, S, H0, Qd, Ed, rel, hm, hq, he⟩ := h
  refine ⟨g, S, H0, _, Ed, rel, hm, fun a S1 hf v H1 H01 st1 gr1 r1 => ?_, he⟩
  refine ⟨g, S1, H01, _, Ed, rel.grow st1 gr1, hf, fun b S2 hf2 w H2 H02 st2 gr2 r2 => ?_, fun x S' ex => (he x S' ex).grow st1 gr1⟩
  refine hs v w a b H2 H02 S2 Qd Ed Q st2 (r1.grow gr2) r2 hf2 fun d S' qd u H' H0' st' gr' r' => ?_
  exact hq d S' qd u H' H0' st' ((gr1.trans st1 gr2).trans st2 gr') (bk st2 (gr1.trans st1 gr2) r')
theorem x_op {op : Operator} {R : RR} {r : R2} {f : D → D → T D} {ma mb : ME} (bk : Back X.K R) (ho : OpR X (binaryOp op) r) (hs : OpS X.K R r f) (ha : XB X E a ma) (hb : XB X E b mb) :
    PE X (.BinOp a op b pos) (lf X.K E R fun g => T.bind (ma g) fun x => T.bind (mb g) fun y => f x y) := pe_w (pe_op ho ha hb) fun _ _ _ h => opS_lf bk hs h
theorem x_cmp {op : CmpOp} {r : R2} {f : D → D → T D} {ma mb : ME} (ho : OpR X (compareOp op) r) (hs : OpS X.K (RF X.K) r f) (ha : XB X E a ma) (hb : XB X E b mb) (hm : behindInMarks op b = false) :
    XE X E (.Compare a [op] [b] pos) (fun g => T.bind (ma g) fun x => T.bind (mb g) fun y => f x y) := pe_w (pe_cmpR ho ha hb hm) fun _ _ _ h => opS_lf back_F hs h
end

/-! what the operators answer -/
theorem RB.int {K : PySem.W.Frag} {Ha H H0 : Hp} {S : Sto} {v : V} {i : Int} (h : RB K Ha H H0 S v (.int i)) : v = .int i := by
  rcases h with h | ⟨p, xs, ds, e1, e2, _⟩ | ⟨p, kvs, ks, ds, e1, e2, _⟩
  · cases h; rfl
  · cases e2
  · cases e2
theorem RB.bl {K : PySem.W.Frag} {Ha H H0 : Hp} {S : Sto} {v : V} {i : Bool} (h : RB K Ha H H0 S v (.bl i)) : v = .bl i := by
  rcases h with h | ⟨p, xs, ds, e1, e2, _⟩ | ⟨p, kvs, ks, ds, e1, e2, _⟩
  · cases h; rfl
  · cases e2
  · cases e2
theorem RB.str {K : PySem.W.Frag} {Ha H H0 : Hp} {S : Sto} {v : V} {i : Str} (h : RB K Ha H H0 S v (.str i)) : v = .str i := by
  rcases h with h | ⟨p, xs, ds, e1, e2, _⟩ | ⟨p, kvs, ks, ds, e1, e2, _⟩
  · cases h; rfl
  · cases e2
  · cases e2
theorem RB.non {K : PySem.W.Frag} {Ha H H0 : Hp} {S : Sto} {v : V} (h : RB K Ha H H0 S v .non) : v = .non := by
  rcases h with h | ⟨p, xs, ds, e1, e2, _⟩ | ⟨p, kvs, ks, ds, e1, e2, _⟩
  · cases h; rfl
  · cases e2
  · cases e2
theorem RB.ref {K : PySem.W.Frag} {Ha H H0 : Hp} {S : Sto} {v : V} {a : Addr} (h : RB K Ha H H0 S v (.ref a)) : v = .ref a := by
  rcases h with h | ⟨p, xs, ds, e1, e2, _⟩ | ⟨p, kvs, ks, ds, e1, e2, _⟩
  · cases h; rfl
  · cases e2
  · cases e2
theorem RB.glo {K : PySem.W.Frag} {Ha H H0 : Hp} {S : Sto} {v : V} {a : Str} (h : RB K Ha H H0 S v (.glo a)) : v = .ref (He.ga K a) := by
  rcases h with h | ⟨_, _, _, _, e, _⟩ | ⟨_, _, _, _, _, e, _⟩
  · cases h; rfl
  · cases e
  · cases e
theorem RB.ty {K : PySem.W.Frag} {Ha H H0 : Hp} {S : Sto} {v : V} {n : String} (h : RB K Ha H H0 S v (.ty n)) : v = .ty n := by
  rcases h with h | ⟨p, xs, ds, e1, e2, _⟩ | ⟨p, kvs, ks, ds, e1, e2, _⟩
  · cases h; rfl
  · cases e2
  · cases e2
theorem RB.tup {K : PySem.W.Frag} {Ha H H0 : Hp} {S : Sto} {v : V} {ds : List D} (h : RB K Ha H H0 S v (.tup ds)) : ∃ a xs, v = .ref a ∧ SqT K H0 a xs ∧ Rps K H0 xs ds := by
  rcases h with h | ⟨p, xs, es, e1, e2, _⟩ | ⟨p, kvs, ks, es, e1, e2, _⟩
  · cases h with
    | tup h r => exact ⟨_, _, rfl, h, r⟩
  · cases e2
  · cases e2
theorem RB.lst {K : PySem.W.Frag} {Ha H H0 : Hp} {S : Sto} (st : StR K H H0 S) {v : V} {ds : List D} (h : RB K Ha H H0 S v (.lst ds)) : ∃ a xs, v = .ref a ∧ H a = some (.lst xs) ∧ S a = none ∧ Rps K H0 xs ds := by
  rcases h with h | ⟨p, xs, es, e1, e2, h1, h2, r⟩ | ⟨p, kvs, ks, es, e1, e2, _⟩
  · cases h with
    | lst h r =>
      refine ⟨_, _, rfl, st.sub _ _ h, ?_, r⟩
      rename_i a xs
      cases q : S a with
      | none => rfl
      | some m =>
        have := st.nos a (by rw [q]; exact fun z => nomatch z)
        rw [h] at this; cases this
  · cases e2
    exact ⟨p, xs, e1, h1, h2, r⟩
  · cases e2
theorem RB.frz {K : PySem.W.Frag} {Ha H H0 : Hp} {S : Sto} (st : StR K H H0 S) {v : V} {ds : List D} (h : RB K Ha H H0 S v (.frz ds)) : ∃ a xs, v = .ref a ∧ SqL K H a xs ∧ Rps K H0 xs ds := by
  rcases h with h | ⟨p, xs, es, e1, e2, h1, h2, r⟩ | ⟨p, kvs, ks, es, e1, e2, _⟩
  · cases h with
    | frz h r => exact ⟨_, _, rfl, sqL_sub st.sub h, r⟩
  · cases e2
  · cases e2
theorem RB.dic {K : PySem.W.Frag} {Ha H H0 : Hp} {S : Sto} (st : StR K H H0 S) {v : V} {ks : List Str} {ds : List D} (h : RB K Ha H H0 S v (.dic ks ds)) : ∃ a kvs, v = .ref a ∧ H a = some (.dK kvs) ∧ kvs.map (·.1) = ks.map Sum.inr ∧ Rps K H0 (kvs.map (·.2)) ds := by
  rcases h with h | ⟨p, xs, es, e1, e2, h1, h2, r⟩ | ⟨p, kvs, ks, es, e1, e2, h1, h2, k, r⟩
  · cases h with
    | dic h k r => exact ⟨_, _, rfl, st.sub _ _ h, k, r⟩
  · cases e2
  · cases e2
    exact ⟨p, kvs, e1, h1, k, r⟩
theorem RBs.nil' {K : PySem.W.Frag} {H H0 : Hp} {S : Sto} {vs : List V} (h : RBs K H H0 S vs []) : vs = [] := by cases h; rfl
theorem RBs.one {K : PySem.W.Frag} {H H0 : Hp} {S : Sto} {vs : List V} {d : D} (h : RBs K H H0 S vs [d]) : ∃ v, vs = [v] ∧ RB K H H H0 S v d := by
  cases h with
  | cons a b => cases b; exact ⟨_, rfl, a⟩
theorem RBs.two {K : PySem.W.Frag} {H H0 : Hp} {S : Sto} {vs : List V} {d e : D} (h : RBs K H H0 S vs [d, e]) : ∃ v w, vs = [v, w] ∧ RB K H H H0 S v d ∧ RB K H H H0 S w e := by
  cases h with
  | cons a b =>
    cases b with
    | cons b c => cases c; exact ⟨_, _, rfl, a, b⟩

section
variable {K : PySem.W.Frag}
def dNeed (p : Prop) : T Unit := fun S Q _ => p ∧ Q () S
/-- a + b -/
def dAdd : D → D → T D
  | .int i, .int j => T.pure (.int (i + j))
  | .str x, .str y => T.bind (dNeed (x.length + y.length ≤ sizeLine)) fun _ => T.pure (.str (x ++ y))
  | .tup xs, .tup ys => T.bind (dNeed (xs.length + ys.length ≤ sizeLine)) fun _ => T.pure (.tup (xs ++ ys))
  | _, _ => T.fail
def rAddAll (K : PySem.W.Frag) : R2 := fun x y H Q => (∃ i j, x = .int i ∧ y = .int j ∧ Q (.int (i + j)) H) ∨ (∃ i j, x = .str i ∧ y = .str j ∧ i.length + j.length ≤ sizeLine ∧ Q (.str (i ++ j)) H) ∨ rCatA K x y H Q
theorem op_addAll {X : Cx} : OpR X (binaryOp .Add) (rAddAll X.K) := op_add.or (op_add_str.or op_catA)
theorem s_addAll : OpS K (RF K) (rAddAll K) dAdd := by
  intro v w a b H H0 S Qd Ed Q st ra rb hf hq
  unfold dAdd at hf
  split at hf
  · rename_i i j
    cases ra.int; cases rb.int
    exact .inl ⟨i, j, rfl, rfl, hq _ S hf _ H H0 st (Grow.refl _ _ _) (.int _)⟩
  · rename_i x y
    cases ra.str; cases rb.str
    obtain ⟨hz, hf⟩ := hf
    exact .inr (.inl ⟨x, y, rfl, rfl, hz, hq _ S hf _ H H0 st (Grow.refl _ _ _) (.str _)⟩)
  · rename_i xs ys
    obtain ⟨pa, va, rfl, ha, ra⟩ := ra.tup
    obtain ⟨pb, vb, rfl, hb, rb⟩ := rb.tup
    obtain ⟨hz, hf⟩ := hf
    have la := ra.length
    have lb := rb.length
    refine .inr (.inr ⟨pa, pb, va, vb, rfl, rfl, sqT_sub st.sub ha, sqT_sub st.sub hb, by rw [la, lb]; exact hz, fun e => ?_, fun e1 e2 => ?_, fun e1 e2 p hp => ?_⟩)
    · subst e
      have : xs = [] := List.length_eq_zero_iff.mp la.symm
      subst this
      exact hq _ S hf _ H H0 st (Grow.refl _ _ _) (.tup hb rb)
    · subst e2
      have : ys = [] := List.length_eq_zero_iff.mp lb.symm
      subst this
      rw [List.append_nil] at hf
      exact hq _ S hf _ H H0 st (Grow.refl _ _ _) (.tup ha ra)
    · obtain ⟨st2, gr2⟩ := alloc_f st hp (.tup (va ++ vb))
      exact hq _ S hf _ _ _ st2 gr2 (.tup (.of upd_same) ((ra.append rb).sub gr2.sub))
  · exact hf.elim
/-- a + b, lists -/
def dCat : D → D → T D
  | .lst xs, .lst ys => T.bind (dNeed (xs.length + ys.length ≤ sizeLine)) fun _ => T.pure (.lst (xs ++ ys))
  | _, _ => T.fail
theorem s_cat : OpS K (RN K) rCat dCat := by
  intro v w a b H H0 S Qd Ed Q st ra rb hf hq
  unfold dCat at hf
  split at hf
  · rename_i xs ys
    obtain ⟨pa, va, rfl, ha, sa, ra⟩ := ra.lst st
    obtain ⟨pb, vb, rfl, hb, sb, rb⟩ := rb.lst st
    obtain ⟨hz, hf⟩ := hf
    refine ⟨pa, pb, va, vb, rfl, rfl, ha, hb, by rw [ra.length, rb.length]; exact hz, fun p hp => ?_⟩
    obtain ⟨st2, gr2, n0, nS⟩ := alloc_n st hp (.lst (va ++ vb))
    exact hq _ S hf _ _ _ st2 gr2 (.inl ⟨p, _, _, rfl, rfl, hp, upd_same, n0, nS, (ra.append rb).sub gr2.sub⟩)
  · exact hf.elim
/-- numbers: C what is asked, g the answer -/
def dI (C : Int → Int → Prop) (g : Int → Int → D) : D → D → T D
  | .int i, .int j => T.bind (dNeed (C i j)) fun _ => T.pure (g i j)
  | _, _ => T.fail
theorem s_I {C : Int → Int → Prop} {g : Int → Int → V} {g' : Int → Int → D} (hg : ∀ i j H0, Rp K H0 (g i j) (g' i j)) : OpS K (RF K) (rI C g) (dI C g') := by
  intro v w a b H H0 S Qd Ed Q st ra rb hf hq
  unfold dI at hf
  split at hf
  · rename_i i j
    cases ra.int; cases rb.int
    obtain ⟨hz, hf⟩ := hf
    exact ⟨i, j, rfl, rfl, hz, hq _ S hf _ H H0 st (Grow.refl _ _ _) (hg _ _ _)⟩
  · exact hf.elim
def dI0 (g : Int → Int → D) : D → D → T D
  | .int i, .int j => T.pure (g i j)
  | _, _ => T.fail
theorem s_I0 {g : Int → Int → V} {g' : Int → Int → D} (hg : ∀ i j H0, Rp K H0 (g i j) (g' i j)) : OpS K (RF K) (rI0 g) (dI0 g') := by
  intro v w a b H H0 S Qd Ed Q st ra rb hf hq
  unfold dI0 at hf
  split at hf
  · rename_i i j
    cases ra.int; cases rb.int
    exact ⟨i, j, rfl, rfl, hq _ S hf _ H H0 st (Grow.refl _ _ _) (hg _ _ _)⟩
  · exact hf.elim
abbrev dSub := dI0 fun i j => D.int (i - j)
abbrev dMod := dI (fun _ j => 0 < j) fun i j => D.int (i % j)
abbrev dFdiv := dI CDiv fun i j => D.int (i / j)
abbrev dPow := dI CPow fun i j => D.int (i ^ j.toNat)
end
end DL

set_option Elab.async false
set_option linter.all false
set_option maxRecDepth 100000
set_option maxHeartbeats 4000000
namespace DL
open PySem PySem.Spec PyProof.Rows L2

/-! ### equality -/
mutual
def toP : D → Option PyData
  | .non => some .none
  | .bl b => some (.bool b)
  | .int i => some (.int i)
  | .str x => some (.str x)
  | .tup xs => (toPs xs).map .tuple
  | .lst xs => (toPs xs).map .list
  | _ => none
def toPs : List D → Option (List PyData)
  | [] => some []
  | x :: r => match toP x, toPs r with
    | some p, some q => some (p :: q)
    | _, _ => none
end
def eqD (d e : D) : Bool := match toP d, toP e with
  | some p, some q => PyData.eqv p q
  | _, _ => false
def okD (d : D) : Bool := match toP d with
  | some p => SeqAt.shaped p
  | none => false
def scalD : D → D → Bool
  | .non, .non => true | .non, .int _ => true | .int _, .non => true | .non, .bl _ => true | .bl _, .non => true | .non, .str _ => true | .str _, .non => true
  | .int _, .int _ => true | .bl _, .bl _ => true | .str _, .str _ => true
  | .int _, .str _ => true | .str _, .int _ => true | .bl _, .str _ => true | .str _, .bl _ => true
  | _, _ => false
def flatD : D → Bool
  | .non => true | .bl _ => true | .int _ => true | .str _ => true
  | _ => false
mutual
theorem Rp.dp {K : PySem.W.Frag} {H0 H : Hp} (e : Sub H0 H) : ∀ {v : V} {d : D} {p : PyData}, Rp K H0 v d → toP d = some p → Dp K H v p
  | _, _, _, .non, h => by cases h; exact .non
  | _, _, _, .bl b, h => by cases h; exact .bl b
  | _, _, _, .int i, h => by cases h; exact .int i
  | _, _, _, .str x, h => by cases h; exact .str x
  | _, _, _, .ref a, h => by simp [toP] at h
  | _, _, _, .glo a, h => by simp [toP] at h
  | _, _, _, .ty n, h => by simp [toP] at h
  | _, _, _, .tup (ds := ds) h1 r, h => by
    rw [toP] at h
    cases q : toPs ds with
    | none => rw [q] at h; cases h
    | some ps => rw [q] at h; cases h; exact .tup (sqT_sub e h1) (Rps.dps e r q)
  | _, _, _, .lst (ds := ds) h1 r, h => by
    rw [toP] at h
    cases q : toPs ds with
    | none => rw [q] at h; cases h
    | some ps => rw [q] at h; cases h; exact .lst (.of (e _ _ h1)) (Rps.dps e r q)
  | _, _, _, .frz h1 r, h => by simp [toP] at h
  | _, _, _, .dic _ _ _, h => by simp [toP] at h
theorem Rps.dps {K : PySem.W.Frag} {H0 H : Hp} (e : Sub H0 H) : ∀ {v : List V} {d : List D} {p : List PyData}, Rps K H0 v d → toPs d = some p → DpAll K H v p
  | _, _, _, .nil, h => by rw [toPs] at h; cases h; exact .nil
  | _, _, _, .cons (d := d) (ds := ds) a b, h => by
    rw [toPs] at h
    cases q : toP d with
    | none => rw [q] at h; cases h
    | some p =>
      cases q2 : toPs ds with
      | none => rw [q, q2] at h; cases h
      | some ps => rw [q, q2] at h; cases h; exact .cons (Rp.dp e a q) (Rps.dps e b q2)
end
theorem RB.dp {K : PySem.W.Frag} {Ha H H0 : Hp} {S : Sto} (st : StR K H H0 S) {v : V} {d : D} {p : PyData} (h : RB K Ha H H0 S v d) (hp : toP d = some p) : Dp K H v p := by
  rcases h with h | ⟨q, xs, ds, e1, e2, h1, h2, r⟩ | ⟨q, kvs, ks, ds, e1, e2, _⟩
  · exact Rp.dp st.sub h hp
  · subst e1 e2
    rw [toP] at hp
    cases z : toPs ds with
    | none => rw [z] at hp; cases hp
    | some ps => rw [z] at hp; cases hp; exact .lst (.of h1) (Rps.dps st.sub r z)
  · subst e2; simp [toP] at hp
theorem RB.scal {K : PySem.W.Frag} {Ha Hb H H0 : Hp} {S : Sto} {v w : V} {d e : D} (hv : RB K Ha H H0 S v d) (hw : RB K Hb H H0 S w e) (hs : scalD d e = true) : L2.scal v w = true ∧ decide (v = w) = eqD d e := by
  cases d <;> cases e <;> first
    | (simp [scalD] at hs; done)
    | (first | cases hv.int | cases hv.bl | cases hv.str | cases hv.non
       first | cases hw.int | cases hw.bl | cases hw.str | cases hw.non
       refine ⟨rfl, ?_⟩
       first
         | rfl
         | (show decide (V.int _ = V.int _) = (_ == _); rw [dec_int])
         | (show decide (V.bl _ = V.bl _) = (_ == _); rw [dec_bl])
         | (show decide (V.str _ = V.str _) = (_ == _); rw [dec_str]))
def dEq (d e : D) : T D := T.bind (dNeed (scalD d e = true ∨ (okD d = true ∧ okD e = true))) fun _ => T.pure (.bl (eqD d e))
def dNe (d e : D) : T D := T.bind (dNeed (scalD d e = true ∨ (okD d = true ∧ okD e = true))) fun _ => T.pure (.bl (!eqD d e))
theorem okD_some {d : D} (h : okD d = true) : ∃ p, toP d = some p ∧ SeqAt.shaped p = true := by
  unfold okD at h
  cases q : toP d with
  | none => rw [q] at h; cases h
  | some p => rw [q] at h; exact ⟨p, rfl, h⟩
theorem eqD_of {d e : D} {p q : PyData} (h1 : toP d = some p) (h2 : toP e = some q) : eqD d e = PyData.eqv p q := by
  unfold eqD; rw [h1, h2]
section
variable {K : PySem.W.Frag}
theorem s_eq : OpS K (RF K) (fun x y H Q => rEq x y H Q ∨ rEqD K x y H Q) dEq := by
  intro v w a b H H0 S Qd Ed Q st ra rb hf hq
  obtain ⟨hc, hf⟩ := hf
  rcases hc with hs | ⟨ha, hb⟩
  · obtain ⟨s1, s2⟩ := RB.scal ra rb hs
    exact .inl ⟨s1, by rw [s2]; exact hq _ S hf _ H H0 st (Grow.refl _ _ _) (.bl _)⟩
  · obtain ⟨p, h1, s1⟩ := okD_some ha
    obtain ⟨q, h2, s2⟩ := okD_some hb
    refine .inr ⟨p, q, ra.dp st h1, rb.dp st h2, s1, s2, ?_⟩
    rw [← eqD_of h1 h2]
    exact hq _ S hf _ H H0 st (Grow.refl _ _ _) (.bl _)
theorem s_ne : OpS K (RF K) (fun x y H Q => rNe x y H Q ∨ rNeD K x y H Q) dNe := by
  intro v w a b H H0 S Qd Ed Q st ra rb hf hq
  obtain ⟨hc, hf⟩ := hf
  rcases hc with hs | ⟨ha, hb⟩
  · obtain ⟨s1, s2⟩ := RB.scal ra rb hs
    exact .inl ⟨s1, by rw [s2]; exact hq _ S hf _ H H0 st (Grow.refl _ _ _) (.bl _)⟩
  · obtain ⟨p, h1, s1⟩ := okD_some ha
    obtain ⟨q, h2, s2⟩ := okD_some hb
    refine .inr ⟨p, q, ra.dp st h1, rb.dp st h2, s1, s2, ?_⟩
    rw [← eqD_of h1 h2]
    exact hq _ S hf _ H H0 st (Grow.refl _ _ _) (.bl _)
/-- < of texts, ints -/
def dLt : D → D → T D
  | .int i, .int j => T.pure (.bl (decide (i < j)))
  | .str x, .str y => T.pure (.bl (decide (x.cps.toList < y.cps.toList)))
  | _, _ => T.fail
theorem s_lt : OpS K (RF K) (fun x y H Q => rI0 (fun i j => .bl (decide (i < j))) x y H Q ∨ ∃ i j, x = .str i ∧ y = .str j ∧ Q (.bl (decide (i.cps.toList < j.cps.toList))) H) dLt := by
  intro v w a b H H0 S Qd Ed Q st ra rb hf hq
  unfold dLt at hf
  split at hf
  · cases ra.int; cases rb.int
    exact .inl ⟨_, _, rfl, rfl, hq _ S hf _ H H0 st (Grow.refl _ _ _) (.bl _)⟩
  · cases ra.str; cases rb.str
    exact .inr ⟨_, _, rfl, rfl, hq _ S hf _ H H0 st (Grow.refl _ _ _) (.bl _)⟩
  · exact hf.elim
abbrev dLe := dI0 fun i j => D.bl (decide (i ≤ j))
abbrev dGt := dI0 fun i j => D.bl (decide (j < i))
abbrev dGe := dI0 fun i j => D.bl (decide (j ≤ i))
/-- in -/
def strIn (x y : Str) : Bool := !(Builtin.Str.occurrences y x 0 y.length 1).isEmpty
def seqOf : D → Option (List D)
  | .tup ys => some ys
  | .lst ys => some ys
  | _ => none
def isL : D → Bool
  | .lst _ => true
  | _ => false
def dInB (x y : D) : T Bool := match x, y with
  | .str i, .str j => T.pure (strIn i j)
  | x, y => match seqOf y with
    | some ys => T.bind (dNeed ((flatD x = true ∧ ys.all flatD = true) ∨ (isL y = true ∧ okD x = true ∧ okD y = true))) fun _ => T.pure (ys.any fun z => eqD z x)
    | none => T.fail
def dIn (neg : Bool) (x y : D) : T D := T.bind (dInB x y) fun b => T.pure (.bl (if neg then !b else b))
theorem rp_flat {K : PySem.W.Frag} {H0 : Hp} {v : V} {d : D} (h : Rp K H0 v d) (hf : flatD d = true) : flatV v = true := by
  cases h <;> first | rfl | cases hf
theorem rp_eqV {K : PySem.W.Frag} {H0 : Hp} {v w : V} {d e : D} (h : Rp K H0 v d) (h' : Rp K H0 w e) (hf : flatD d = true) (hf' : flatD e = true) : eqV v w = eqD d e := by
  cases h <;> first | (cases hf; done) | (cases h' <;> first | (cases hf'; done) | rfl)
theorem RB.flat {K : PySem.W.Frag} {Ha H H0 : Hp} {S : Sto} {v : V} {d : D} (h : RB K Ha H H0 S v d) (hf : flatD d = true) : Rp K H0 v d := by
  rcases h with h | ⟨q, xs, ds, e1, e2, _⟩ | ⟨q, kvs, ks, ds, e1, e2, _⟩
  · exact h
  · subst e2; cases hf
  · subst e2; cases hf
theorem rps_flat {K : PySem.W.Frag} {H0 : Hp} : ∀ {xs : List V} {ds : List D}, Rps K H0 xs ds → ds.all flatD = true → xs.all flatV = true
  | _, _, .nil, _ => rfl
  | _, _, .cons a b, h => by
    rw [List.all_cons, Bool.and_eq_true] at h
    rw [List.all_cons, rp_flat a h.1, rps_flat b h.2]; rfl
theorem rps_inV {K : PySem.W.Frag} {H0 : Hp} {v : V} {d : D} (hv : Rp K H0 v d) (hd : flatD d = true) : ∀ {xs : List V} {ds : List D}, Rps K H0 xs ds → ds.all flatD = true → inV v xs = ds.any fun z => eqD z d
  | _, _, .nil, _ => rfl
  | _, _, .cons (v := w) (d := z) a b, h => by
    rw [List.all_cons, Bool.and_eq_true] at h
    show (eqV w v || inV v _) = _
    rw [List.any_cons, rp_eqV a hv h.1 hd, rps_inV hv hd b h.2]
theorem toPs_any {x : D} {p : PyData} (hx : toP x = some p) : ∀ {ds : List D} {ps : List PyData}, toPs ds = some ps → (ps.any fun z => PyData.eqv z p) = ds.any fun z => eqD z x
  | [], ps, h => by rw [toPs] at h; cases h; rfl
  | d :: ds, ps, h => by
    rw [toPs] at h
    cases q : toP d with
    | none => rw [q] at h; cases h
    | some p' =>
      cases q2 : toPs ds with
      | none => rw [q, q2] at h; cases h
      | some ps' =>
        rw [q, q2] at h
        cases h
        rw [List.any_cons, List.any_cons, toPs_any hx q2, eqD_of q hx]
def rInAll (K : PySem.W.Frag) (neg : Bool) : R2 := fun x y H Q => (∃ i j, x = .str i ∧ y = .str j ∧ Q (.bl (if neg then !(!(Builtin.Str.occurrences j i 0 j.length 1).isEmpty) else !(Builtin.Str.occurrences j i 0 j.length 1).isEmpty)) H) ∨ rIn K neg x y H Q ∨
  ∃ d ds, Dp K H x d ∧ Dp K H y (.list ds) ∧ SeqAt.shaped d = true ∧ SeqAt.shaped (.list ds) = true ∧ Q (.bl (if neg then !(ds.any fun z => PyData.eqv z d) else ds.any fun z => PyData.eqv z d)) H
theorem op_inAll {X : Cx} (hu : X.A.units + 65 < cLine) : OpR X (compareOp .In) (rInAll X.K false) := by
  intro pins s σ H x y v u Q I rx ry h
  rcases h with h | h | h
  · exact op_in_str pins s σ H x y v u Q I rx ry h
  · exact op_in_seq pins s σ H x y v u Q I rx ry h
  · exact op_inD hu pins s σ H x y v u Q I rx ry h
theorem op_notInAll {X : Cx} (hu : X.A.units + 65 < cLine) : OpR X (compareOp .NotIn) (rInAll X.K true) := by
  intro pins s σ H x y v u Q I rx ry h
  rcases h with h | h | h
  · exact op_notIn_str pins s σ H x y v u Q I rx ry h
  · exact op_notIn_seq pins s σ H x y v u Q I rx ry h
  · exact op_notInD hu pins s σ H x y v u Q I rx ry h
theorem s_in (neg : Bool) : OpS K (RF K) (rInAll K neg) (dIn neg) := by
  intro v w a b H H0 S Qd Ed Q st ra rb hf hq
  have key : dInB a b S (fun c S' => Qd (.bl (if neg then !c else c)) S') Ed := hf
  unfold dInB at key
  split at key
  · cases ra.str; cases rb.str
    refine .inl ⟨_, _, rfl, rfl, ?_⟩
    exact hq _ S key _ H H0 st (Grow.refl _ _ _) (.bl _)
  · cases hb : seqOf b with
    | none => rw [hb] at key; exact key.elim
    | some ys =>
      rw [hb] at key
      obtain ⟨hc, key⟩ := key
      rcases hc with ⟨fx, fy⟩ | ⟨hl, ox, oy⟩
      · have rv := RB.flat ra fx
        have fin : ∀ {p xs}, (SqL K H p xs ∨ SqT K H p xs) → Rps K H0 xs ys → rIn K neg v (.ref p) H Q := fun {p xs} hs r => by
          refine ⟨p, xs, rfl, hs, rp_flat rv fx, rps_flat r fy, ?_⟩
          rw [rps_inV rv fx r fy]
          exact hq _ S key _ H H0 st (Grow.refl _ _ _) (.bl _)
        cases b with
        | tup zs =>
          cases hb
          obtain ⟨p, xs, rfl, h1, r⟩ := rb.tup
          exact .inr (.inl (fin (.inr (sqT_sub st.sub h1)) r))
        | lst zs =>
          cases hb
          obtain ⟨p, xs, rfl, h1, _, r⟩ := rb.lst st
          exact .inr (.inl (fin (.inl (.of h1)) r))
        | _ => cases hb
      · cases b with
        | lst zs =>
          cases hb
          obtain ⟨p, h1, s1⟩ := okD_some ox
          obtain ⟨q, h2, s2⟩ := okD_some oy
          have h2' := h2
          rw [toP] at h2'
          cases z : toPs ys with
          | none => rw [z] at h2'; cases h2'
          | some ps =>
            rw [z] at h2'
            cases h2'
            refine .inr (.inr ⟨p, ps, ra.dp st h1, rb.dp st h2, s1, s2, ?_⟩)
            rw [toPs_any h1 z]
            exact hq _ S key _ H H0 st (Grow.refl _ _ _) (.bl _)
        | _ => cases hl
/-- is None -/
def isNon : D → Bool
  | .non => true
  | _ => false
theorem RB.isNon {Ha H H0 : Hp} {S : Sto} {v : V} {d : D} (h : RB K Ha H H0 S v d) : decide (v = .non) = isNon d := by
  rcases h with h | ⟨q, xs, ds, e1, e2, _⟩ | ⟨q, kvs, ks, ds, e1, e2, _⟩
  · cases h <;> rfl
  · subst e1 e2; rfl
  · subst e1 e2; rfl
def dIsN (neg : Bool) : D → D → T D
  | d, .non => T.pure (.bl (if neg then !isNon d else isNon d))
  | _, _ => T.fail
theorem s_isN : OpS K (RF K) (fun x y H Q => y = .non ∧ Q (.bl (decide (x = .non))) H) (dIsN false) := by
  intro v w a b H H0 S Qd Ed Q st ra rb hf hq
  unfold dIsN at hf
  split at hf
  · cases rb.non
    exact ⟨rfl, by rw [RB.isNon ra]; exact hq _ S hf _ H H0 st (Grow.refl _ _ _) (.bl _)⟩
  · exact hf.elim
theorem s_notN : OpS K (RF K) (fun x y H Q => y = .non ∧ Q (.bl (!decide (x = .non))) H) (dIsN true) := by
  intro v w a b H H0 S Qd Ed Q st ra rb hf hq
  unfold dIsN at hf
  split at hf
  · cases rb.non
    exact ⟨rfl, by rw [RB.isNon ra]; exact hq _ S hf _ H H0 st (Grow.refl _ _ _) (.bl _)⟩
  · exact hf.elim
end
section
variable {X : Cx} {E : XK} {a b c : Expr} {pos : Pos} {ma mb mc : ME} {k : Nat}
abbrev mb2 (f : D → D → T D) (ma mb : ME) : ME := fun g => T.bind (ma g) fun x => T.bind (mb g) fun y => f x y
theorem hu64 (hr : Room k X.A) : X.A.units + 64 < cLine := hr.units
theorem hu65 (hr : Room k X.A) : X.A.units + 65 < cLine := by have := hr.un; omega
theorem x_eq (hr : Room k X.A) (ha : XB X E a ma) (hb : XB X E b mb) : XE X E (.Compare a [.Eq] [b] pos) (mb2 dEq ma mb) := x_cmp (op_eq.or (op_eqD (hu64 hr))) s_eq ha hb (nomark _)
theorem x_ne (hr : Room k X.A) (ha : XB X E a ma) (hb : XB X E b mb) : XE X E (.Compare a [.NotEq] [b] pos) (mb2 dNe ma mb) := x_cmp (op_ne.or (op_neD (hu64 hr))) s_ne ha hb (nomark _)
theorem x_lt (ha : XB X E a ma) (hb : XB X E b mb) : XE X E (.Compare a [.Lt] [b] pos) (mb2 dLt ma mb) := x_cmp (op_lt.or op_lt_str) s_lt ha hb (nomark _)
theorem x_le (ha : XB X E a ma) (hb : XB X E b mb) : XE X E (.Compare a [.LtE] [b] pos) (mb2 dLe ma mb) := x_cmp op_le (s_I0 fun _ _ _ => .bl _) ha hb (nomark _)
theorem x_gt (ha : XB X E a ma) (hb : XB X E b mb) : XE X E (.Compare a [.Gt] [b] pos) (mb2 dGt ma mb) := x_cmp op_gt (s_I0 fun _ _ _ => .bl _) ha hb (nomark _)
theorem x_ge (ha : XB X E a ma) (hb : XB X E b mb) : XE X E (.Compare a [.GtE] [b] pos) (mb2 dGe ma mb) := x_cmp op_ge (s_I0 fun _ _ _ => .bl _) ha hb (nomark _)
theorem x_in (hr : Room k X.A) (ha : XB X E a ma) (hb : XB X E b mb) (hm : behindInMarks .In b = false := by rfl) : XE X E (.Compare a [.In] [b] pos) (mb2 (dIn false) ma mb) := x_cmp (op_inAll (hu65 hr)) (s_in false) ha hb hm
theorem x_nin (hr : Room k X.A) (ha : XB X E a ma) (hb : XB X E b mb) (hm : behindInMarks .NotIn b = false := by rfl) : XE X E (.Compare a [.NotIn] [b] pos) (mb2 (dIn true) ma mb) := x_cmp (op_notInAll (hu65 hr)) (s_in true) ha hb hm
theorem x_isN (ha : XB X E a ma) (hb : XB X E b mb) : XE X E (.Compare a [.Is] [b] pos) (mb2 (dIsN false) ma mb) := x_cmp op_isN s_isN ha hb (nomark _)
theorem x_notN (ha : XB X E a ma) (hb : XB X E b mb) : XE X E (.Compare a [.IsNot] [b] pos) (mb2 (dIsN true) ma mb) := x_cmp op_notN s_notN ha hb (nomark _)
theorem x_add (ha : XB X E a ma) (hb : XB X E b mb) : XE X E (.BinOp a .Add b pos) (mb2 dAdd ma mb) := x_op back_F op_addAll s_addAll ha hb
theorem x_cat (ha : XB X E a ma) (hb : XB X E b mb) : XN X E (.BinOp a .Add b pos) (mb2 dCat ma mb) := x_op back_N op_cat s_cat ha hb
theorem x_sub (ha : XB X E a ma) (hb : XB X E b mb) : XE X E (.BinOp a .Sub b pos) (mb2 dSub ma mb) := x_op back_F op_sub (s_I0 fun _ _ _ => .int _) ha hb
theorem x_mod (ha : XB X E a ma) (hb : XB X E b mb) : XE X E (.BinOp a .Mod b pos) (mb2 dMod ma mb) := x_op back_F op_mod (s_I fun _ _ _ => .int _) ha hb
theorem x_fdiv (ha : XB X E a ma) (hb : XB X E b mb) : XE X E (.BinOp a .FloorDiv b pos) (mb2 dFdiv ma mb) := x_op back_F op_fdiv (s_I fun _ _ _ => .int _) ha hb
theorem x_pow (ha : XB X E a ma) (hb : XB X E b mb) : XE X E (.BinOp a .Pow b pos) (mb2 dPow ma mb) := x_op back_F op_pow (s_I fun _ _ _ => .int _) ha hb

/-- a op b op' c -/
def dAsB : D → T Bool
  | .bl b => T.pure b
  | _ => T.fail
theorem dAsB_inv {d : D} {S : Sto} {Qd : Bool → Sto → Prop} {Ed : Xn → Sto → Prop} (h : dAsB d S Qd Ed) : ∃ b, d = .bl b ∧ Qd b S := by
  cases d with
  | bl b => exact ⟨b, rfl, h⟩
  | _ => exact h.elim
theorem x_chain {op op' : CmpOp} {r r' : R2} {f f' : D → D → T D} (ho : OpR X (compareOp op) r) (hs : OpS X.K (RF X.K) r f) (ho' : OpR X (compareOp op') r') (hs' : OpS X.K (RF X.K) r' f') (ha : XB X E a ma) (hb : XB X E b mb) (hc : XB X E c mc)
    (hm : lastMarks [op, op'] [b, c] = false := by with_unfolding_all rfl) :
    XE X E (.Compare a [op, op'] [b, c] pos) (fun g => T.bind (ma g) fun x => T.bind (mb g) fun y => T.bind (f x y) fun z => T.bind (dAsB z) fun k => T.ite k (T.bind (mc g) fun w => f' y w) (T.pure (.bl false))) := by
  refine pe_w (pe_chain ho ho' ha hb hc hm) fun σ H Q ⟨g, S, H0, Qd, Ed, rel, hm, hq, he⟩ => ?_
  refine ⟨g, S, H0, _, Ed, rel, hm, fun x S1 hf v H1 H01 st1 gr1 r1 => ?_, he⟩
  refine ⟨g, S1, H01, _, Ed, rel.grow st1 gr1, hf, fun y S2 hf2 w H2 H02 st2 gr2 r2 => ?_, fun x S' ex => (he x S' ex).grow st1 gr1⟩
  refine hs v w x y H2 H02 S2 _ Ed _ st2 (r1.grow gr2) r2 hf2 fun z S3 hz u H3 H03 st3 gr3 r3 => ?_
  obtain ⟨k, rfl, hz⟩ := dAsB_inv hz
  cases r3
  refine ⟨k, rfl, ?_⟩
  have g13 := (gr1.trans st1 gr2).trans st2 gr3
  cases k with
  | false =>
    have hz := T.iteF hz
    exact hq _ S3 hz _ H3 H03 st3 g13 (.bl _)
  | true =>
    have hz := T.iteT hz
    refine ⟨g, S3, H03, _, Ed, (rel.grow st2 (gr1.trans st1 gr2)).grow st3 gr3, hz, fun w' S4 h4 u4 H4 H04 st4 gr4 r4 => ?_, fun x S' ex => (he x S' ex).grow st3 g13⟩
    refine hs' w u4 y w' H4 H04 S4 Qd Ed Q st4 (r2.grow (gr3.trans st3 gr4)) r4 h4 fun d S' qd u H' H0' st' gr' r' => ?_
    exact hq d S' qd u H' H0' st' ((g13.trans st3 gr4).trans st4 gr') r'
theorem x_lele (ha : XB X E a ma) (hb : XB X E b mb) (hc : XB X E c mc) (hm : lastMarks [.LtE, .LtE] [b, c] = false := by with_unfolding_all rfl) :
    XE X E (.Compare a [.LtE, .LtE] [b, c] pos) (fun g => T.bind (ma g) fun x => T.bind (mb g) fun y => T.bind (dLe x y) fun z => T.bind (dAsB z) fun k => T.ite k (T.bind (mc g) fun w => dLe y w) (T.pure (.bl false))) :=
  x_chain op_le (s_I0 fun _ _ _ => .bl _) op_le (s_I0 fun _ _ _ => .bl _) ha hb hc hm

/-! ### tests -/
def dTru : D → T Bool
  | .non => T.pure false
  | .bl b => T.pure b
  | .int i => T.pure (i != 0)
  | .str x => T.bind (dNeed (x.length ≤ sizeLine)) fun _ => T.pure ((x.length : Int) != 0)
  | .tup xs => T.pure (!xs.isEmpty)
  | .lst xs => T.pure (!xs.isEmpty)
  | _ => T.fail
theorem rps_empty {K : PySem.W.Frag} {H0 : Hp} {xs : List V} {ds : List D} (r : Rps K H0 xs ds) : xs.isEmpty = ds.isEmpty := by cases r <;> rfl
theorem t_val {e : Expr} {m : ME} (h : XB X E e m) (he : ∀ whole, isTrue e X.env whole = (do let v ← whole; standAt e.pos; holding [v] (truthy v)) := by intro _; rfl) : XT X E e (fun g => T.bind (m g) dTru) := by
  refine pt_w (pt_truth h he) fun σ H Q ⟨g, S, H0, Qd, Ed, rel, hm, hq, he⟩ => ?_
  refine ⟨g, S, H0, _, Ed, rel, hm, fun d S1 hf v H1 H01 st1 gr1 r1 => ?_, he⟩
  cases d with
  | non => cases r1.non; exact ⟨false, rfl, hq _ S1 hf H1 H01 st1 gr1⟩
  | bl b => cases r1.bl; exact ⟨b, rfl, hq _ S1 hf H1 H01 st1 gr1⟩
  | int i => cases r1.int; exact ⟨_, rfl, hq _ S1 hf H1 H01 st1 gr1⟩
  | str x => cases r1.str; obtain ⟨hz, hf⟩ := hf; exact ⟨_, ⟨hz, rfl⟩, hq _ S1 hf H1 H01 st1 gr1⟩
  | tup xs =>
    obtain ⟨p, vs, rfl, h1, r⟩ := r1.tup
    exact ⟨_, .inr (.inl ⟨vs, sqT_sub st1.sub h1, by rw [rps_empty r]⟩), hq _ S1 hf H1 H01 st1 gr1⟩
  | lst xs =>
    obtain ⟨p, vs, rfl, h1, _, r⟩ := r1.lst st1
    exact ⟨_, .inl ⟨vs, .of h1, by rw [rps_empty r]⟩, hq _ S1 hf H1 H01 st1 gr1⟩
  | _ => exact hf.elim
/-- a comparison as a test -/
theorem t_cmp {op : CmpOp} {r : R2} {f : D → D → T D} (ho : OpR X (compareOp op) r) (hs : OpS X.K (RF X.K) r f) (ha : XB X E a ma) (hb : XB X E b mb) (hm : behindInMarks op b = false) :
    XT X E (.Compare a [op] [b] pos) (fun g => T.bind (mb2 f ma mb g) dAsB) := by
  refine pt_w (pt_cmpR ho ha hb hm) fun σ H Q ⟨g, S, H0, Qd, Ed, rel, hm, hq, he⟩ => ?_
  refine opS_lf (R := RF X.K) (E := E) (f := f) back_F hs ⟨g, S, H0, _, Ed, rel, hm, fun d S1 hf v H1 H01 st1 gr1 r1 => ?_, he⟩
  obtain ⟨k, rfl, hf⟩ := dAsB_inv hf
  cases r1
  exact ⟨k, rfl, hq _ S1 hf H1 H01 st1 gr1⟩
theorem t_eq (hr : Room k X.A) (ha : XB X E a ma) (hb : XB X E b mb) : XT X E (.Compare a [.Eq] [b] pos) (fun g => T.bind (mb2 dEq ma mb g) dAsB) := t_cmp (op_eq.or (op_eqD (hu64 hr))) s_eq ha hb (nomark _)
theorem t_ne (hr : Room k X.A) (ha : XB X E a ma) (hb : XB X E b mb) : XT X E (.Compare a [.NotEq] [b] pos) (fun g => T.bind (mb2 dNe ma mb g) dAsB) := t_cmp (op_ne.or (op_neD (hu64 hr))) s_ne ha hb (nomark _)
theorem t_lt (ha : XB X E a ma) (hb : XB X E b mb) : XT X E (.Compare a [.Lt] [b] pos) (fun g => T.bind (mb2 dLt ma mb g) dAsB) := t_cmp (op_lt.or op_lt_str) s_lt ha hb (nomark _)
theorem t_le (ha : XB X E a ma) (hb : XB X E b mb) : XT X E (.Compare a [.LtE] [b] pos) (fun g => T.bind (mb2 dLe ma mb g) dAsB) := t_cmp op_le (s_I0 fun _ _ _ => .bl _) ha hb (nomark _)
theorem t_gt (ha : XB X E a ma) (hb : XB X E b mb) : XT X E (.Compare a [.Gt] [b] pos) (fun g => T.bind (mb2 dGt ma mb g) dAsB) := t_cmp op_gt (s_I0 fun _ _ _ => .bl _) ha hb (nomark _)
theorem t_ge (ha : XB X E a ma) (hb : XB X E b mb) : XT X E (.Compare a [.GtE] [b] pos) (fun g => T.bind (mb2 dGe ma mb g) dAsB) := t_cmp op_ge (s_I0 fun _ _ _ => .bl _) ha hb (nomark _)
theorem t_in (hr : Room k X.A) (ha : XB X E a ma) (hb : XB X E b mb) (hm : behindInMarks .In b = false := by rfl) : XT X E (.Compare a [.In] [b] pos) (fun g => T.bind (mb2 (dIn false) ma mb g) dAsB) := t_cmp (op_inAll (hu65 hr)) (s_in false) ha hb hm
theorem t_nin (hr : Room k X.A) (ha : XB X E a ma) (hb : XB X E b mb) (hm : behindInMarks .NotIn b = false := by rfl) : XT X E (.Compare a [.NotIn] [b] pos) (fun g => T.bind (mb2 (dIn true) ma mb g) dAsB) := t_cmp (op_notInAll (hu65 hr)) (s_in true) ha hb hm
theorem t_isN (ha : XB X E a ma) (hb : XB X E b mb) : XT X E (.Compare a [.Is] [b] pos) (fun g => T.bind (mb2 (dIsN false) ma mb g) dAsB) := t_cmp op_isN s_isN ha hb (nomark _)
theorem t_notN (ha : XB X E a ma) (hb : XB X E b mb) : XT X E (.Compare a [.IsNot] [b] pos) (fun g => T.bind (mb2 (dIsN true) ma mb g) dAsB) := t_cmp op_notN s_notN ha hb (nomark _)
abbrev XW (X : Cx) (E : XK) (e : Expr) (m : MT) : Prop := PW X e (lt X.K E m)
variable {ta tb : MT} {rest : List Expr}
theorem XW.t {e : Expr} (h : XW X E e ta) : XT X E e ta := PW.pt h
theorem w_and1 (ha : XT X E a ta) : XW X E (.BoolOp .And [a] pos) ta := pw_and1 ha
theorem w_or1 (ha : XT X E a ta) : XW X E (.BoolOp .Or [a] pos) ta := pw_or1 ha
theorem w_and (ha : XT X E a ta) (hb : XW X E (.BoolOp .And (b :: rest) pos) tb) : XW X E (.BoolOp .And (a :: b :: rest) pos) (fun g => T.bind (ta g) fun k => T.ite k (tb g) (T.pure false)) := by
  refine pw_w (pw_and ha hb) fun σ H Q ⟨g, S, H0, Qd, Ed, rel, hm, hq, he⟩ => ?_
  refine ⟨g, S, H0, _, Ed, rel, hm, fun k S1 hf H1 H01 st1 gr1 => ?_, he⟩
  cases k with
  | false =>
    have hf := T.iteF hf
    exact hq _ S1 hf H1 H01 st1 gr1
  | true =>
    have hf := T.iteT hf
    exact ⟨g, S1, H01, Qd, Ed, rel.grow st1 gr1, hf, fun b S' q H' H0' st' gr' => hq b S' q H' H0' st' (gr1.trans st1 gr'), fun x S' ex => (he x S' ex).grow st1 gr1⟩
theorem w_or (ha : XT X E a ta) (hb : XW X E (.BoolOp .Or (b :: rest) pos) tb) : XW X E (.BoolOp .Or (a :: b :: rest) pos) (fun g => T.bind (ta g) fun k => T.ite k (T.pure true) (tb g)) := by
  refine pw_w (pw_or ha hb) fun σ H Q ⟨g, S, H0, Qd, Ed, rel, hm, hq, he⟩ => ?_
  refine ⟨g, S, H0, _, Ed, rel, hm, fun k S1 hf H1 H01 st1 gr1 => ?_, he⟩
  cases k with
  | true =>
    have hf := T.iteT hf
    exact hq _ S1 hf H1 H01 st1 gr1
  | false =>
    have hf := T.iteF hf
    exact ⟨g, S1, H01, Qd, Ed, rel.grow st1 gr1, hf, fun b S' q H' H0' st' gr' => hq b S' q H' H0' st' (gr1.trans st1 gr'), fun x S' ex => (he x S' ex).grow st1 gr1⟩
theorem t_not (ha : XT X E a ta) : XT X E (.UnaryOp .Not a pos) (fun g => T.bind (ta g) fun k => T.pure (!k)) := by
  refine pt_w (pt_not ha) fun σ H Q ⟨g, S, H0, Qd, Ed, rel, hm, hq, he⟩ => ?_
  exact ⟨g, S, H0, _, Ed, rel, hm, fun k S1 hf H1 H01 st1 gr1 => hq _ S1 hf H1 H01 st1 gr1, he⟩
/-! ### and, or, not, if-else as values -/
theorem x_one {op} (h : XE X E a ma) : XE X E (.BoolOp op [a] pos) ma := pe_one h
theorem x_and (ha : XE X E a ma) (hb : XE X E (.BoolOp .And (b :: rest) pos) mb) : XE X E (.BoolOp .And (a :: b :: rest) pos) (fun g => T.bind (ma g) fun x => T.bind (dAsB x) fun k => T.ite k (mb g) (T.pure (.bl false))) := by
  refine pe_w (pe_and ha hb) fun σ H Q ⟨g, S, H0, Qd, Ed, rel, hm, hq, he⟩ => ?_
  refine ⟨g, S, H0, _, Ed, rel, hm, fun d S1 hf v H1 H01 st1 gr1 r1 => ?_, he⟩
  obtain ⟨k, rfl, hf⟩ := dAsB_inv hf
  cases r1
  refine ⟨k, rfl, ?_⟩
  cases k with
  | false =>
    have hf := T.iteF hf
    exact hq _ S1 hf _ H1 H01 st1 gr1 (.bl _)
  | true =>
    have hf := T.iteT hf
    exact ⟨g, S1, H01, Qd, Ed, rel.grow st1 gr1, hf, fun b S' q v H' H0' st' gr' r' => hq b S' q v H' H0' st' (gr1.trans st1 gr') r', fun x S' ex => (he x S' ex).grow st1 gr1⟩
theorem x_or (ha : XE X E a ma) (hb : XE X E (.BoolOp .Or (b :: rest) pos) mb) : XE X E (.BoolOp .Or (a :: b :: rest) pos) (fun g => T.bind (ma g) fun x => T.bind (dAsB x) fun k => T.ite k (T.pure (.bl true)) (mb g)) := by
  refine pe_w (pe_or ha hb) fun σ H Q ⟨g, S, H0, Qd, Ed, rel, hm, hq, he⟩ => ?_
  refine ⟨g, S, H0, _, Ed, rel, hm, fun d S1 hf v H1 H01 st1 gr1 r1 => ?_, he⟩
  obtain ⟨k, rfl, hf⟩ := dAsB_inv hf
  cases r1
  refine ⟨k, rfl, ?_⟩
  cases k with
  | true =>
    have hf := T.iteT hf
    exact hq _ S1 hf _ H1 H01 st1 gr1 (.bl _)
  | false =>
    have hf := T.iteF hf
    exact ⟨g, S1, H01, Qd, Ed, rel.grow st1 gr1, hf, fun b S' q v H' H0' st' gr' r' => hq b S' q v H' H0' st' (gr1.trans st1 gr') r', fun x S' ex => (he x S' ex).grow st1 gr1⟩
theorem x_not (ha : XE X E a ma) : XE X E (.UnaryOp .Not a pos) (fun g => T.bind (ma g) fun x => T.bind (dAsB x) fun k => T.pure (.bl (!k))) := by
  refine pe_w (pe_not ha) fun σ H Q ⟨g, S, H0, Qd, Ed, rel, hm, hq, he⟩ => ?_
  refine ⟨g, S, H0, _, Ed, rel, hm, fun d S1 hf v H1 H01 st1 gr1 r1 => ?_, he⟩
  obtain ⟨k, rfl, hf⟩ := dAsB_inv hf
  cases r1
  exact ⟨k, rfl, hq _ S1 hf _ H1 H01 st1 gr1 (.bl _)⟩
theorem x_ife (hc : XT X E c ta) (ha : XE X E a ma) (hb : XE X E b mb) : XE X E (.IfExp c a b pos) (fun g => T.bind (ta g) fun k => T.ite k (ma g) (mb g)) := by
  refine pe_w (pe_ifExp hc ha hb) fun σ H Q ⟨g, S, H0, Qd, Ed, rel, hm, hq, he⟩ => ?_
  refine ⟨g, S, H0, _, Ed, rel, hm, fun k S1 hf H1 H01 st1 gr1 => ?_, he⟩
  cases k with
  | true =>
    have hf := T.iteT hf
    exact ⟨g, S1, H01, Qd, Ed, rel.grow st1 gr1, hf, fun b S' q v H' H0' st' gr' r' => hq b S' q v H' H0' st' (gr1.trans st1 gr') r', fun x S' ex => (he x S' ex).grow st1 gr1⟩
  | false =>
    have hf := T.iteF hf
    exact ⟨g, S1, H01, Qd, Ed, rel.grow st1 gr1, hf, fun b S' q v H' H0' st' gr' r' => hq b S' q v H' H0' st' (gr1.trans st1 gr') r', fun x S' ex => (he x S' ex).grow st1 gr1⟩
end
end DL

set_option Elab.async false
set_option linter.all false
set_option maxRecDepth 100000
set_option maxHeartbeats 4000000
/-! Sets of texts: made of a list or a tuple, sorted, counted. -/
namespace STx
open PySem PySem.Spec PyProof.Rows L2

def tOf (e : Int × Value) : Str := match e.2 with
  | .str x _ => x
  | _ => Str.empty
def TextE (w : World) (e : Int × Value) : Prop := ∃ x tk, e.2 = Value.str x tk ∧ e.1 = hashStr w x
/-- the members are xs, each once; what is asked of the table that it may be walked -/
structure TextSet (w : World) (h : Heap) (a : Addr) (M : Str → Prop) (n : Nat) (o : Obj) (es : Array (Int × Value)) (ep : Nat) (t : SetTable) : Prop where
  at_ : h.get? a = some o
  ex : o.ExactSet
  dat : o.data = .set es ep t
  el : ∀ e ∈ es.toList, TextE w e
  nd : (es.toList.map tOf).Nodup
  mem : ∀ x, M x ↔ x ∈ es.toList.map tOf
  few : es.size < scanBound
  fit : t.fits es.size = true
  num : es.size = n
  ris : Ris t.place.toList
  ord : w.params.followText "set-order" = true ∨ t.led = true
def TSet (w : World) (h : Heap) (a : Addr) (M : Str → Prop) (n : Nat) : Prop := ∃ o es ep t, TextSet w h a M n o es ep t
section
variable {P : Program} {w : World} {h h' : Heap} {a : Addr} {M : Str → Prop} {n : Nat}
theorem TSet.at' (R : TSet w h a M n) (k : ∀ o, h.get? a = some o → h'.get? a = some o) : TSet w h' a M n := by
  obtain ⟨o, es, ep, t, R⟩ := R
  exact ⟨o, es, ep, t, k o R.at_, R.ex, R.dat, R.el, R.nd, R.mem, R.few, R.fit, R.num, R.ris, R.ord⟩
theorem TSet.iff {M' : Str → Prop} (R : TSet w h a M n) (e : ∀ x, M' x ↔ M x) : TSet w h a M' n := by
  obtain ⟨o, es, ep, t, R⟩ := R
  exact ⟨o, es, ep, t, R.at_, R.ex, R.dat, R.el, R.nd, fun x => (e x).trans (R.mem x), R.few, R.fit, R.num, R.ris, R.ord⟩
theorem tx_elems {l : List (Int × Value)} (g : ∀ e ∈ l, TextE w e) : ElemsOf (strKind P w) l := fun e he => by
  obtain ⟨x, tk, h1, h2⟩ := g e he
  refine ⟨⟨x, by rw [h1]; exact strKind_is P w x tk, h2⟩, ?_⟩
  rw [h1] <;> rfl
theorem tx_is {e : Int × Value} (g : TextE w e) (x : Str) : (strKind P w).is x e.2 = true ↔ tOf e = x := by
  obtain ⟨y, tk, h1, _⟩ := g
  have e1 : tOf e = y := by unfold tOf; rw [h1]
  rw [e1, h1]
  constructor
  · intro q
    have q2 : Value.isStrOf x (.str y tk) = true := q
    simp [Value.isStrOf] at q2
    exact q2
  · rintro rfl
    exact strKind_is P w y tk
theorem tx_mem {l : List (Int × Value)} (g : ∀ e ∈ l, TextE w e) (x : Str) : x ∈ l.map tOf ↔ ∃ e ∈ l, (strKind P w).is x e.2 = true := by
  rw [List.mem_map]
  exact ⟨fun ⟨e, he, q⟩ => ⟨e, he, (tx_is (g e he) x).2 q⟩, fun ⟨e, he, q⟩ => ⟨e, he, (tx_is (g e he) x).1 q⟩⟩
end
abbrev newS (w : World) : Obj := { cls := .type "set", dict := none, data := .set #[] 0 (.fresh 0 0 (!w.params.followText "set-order")) }
theorem tset_new {w : World} {h : Heap} {a : Addr} {M : Str → Prop} (ho : h.get? a = some (newS w)) (hM : ∀ x, ¬ M x) : TSet w h a M 0 := by
  refine ⟨_, #[], 0, _, ho, ⟨rfl, rfl, rfl⟩, rfl, fun e he => by simp at he, by simp, fun x => ⟨fun q => absurd q (hM x), fun q => by simp at q⟩, by decide, by rfl, rfl, List.Pairwise.nil, ?_⟩
  cases q : w.params.followText "set-order" with
  | true => exact .inl rfl
  | false => exact .inr rfl
section
variable {P : Program} {w : World} {A : Around} {E : Value → Shared → Prop} {s : Shared} {a : Addr} {M : Str → Prop} {n : Nat}
/-- the store behind a new member, and the table laid anew where it is too full -/
theorem tx_tail {g : Bool → Sem Unit} (hg : ∀ (b : Bool) (s₁ : Shared) (Q' : Unit → Shared → Prop), Q' () s₁ → wpAny (model P w) A (g b) Q' E s₁)
    {o : Obj} {es : Array (Int × Value)} {ep : Nat} {t : SetTable} (ho : s.heap.get? a = some o) (hex : o.ExactSet) (hd : o.data = .set es ep t)
    {fs : Array (Int × Value)} {t2 : SetTable} {M' : Str → Prop} (g1 : ∀ e ∈ fs.toList, TextE w e) (nd1 : (fs.toList.map tOf).Nodup) (m1 : ∀ x, M' x ↔ x ∈ fs.toList.map tOf)
    (hb1 : fs.size < scanBound) (hf2 : t2.fits fs.size = true) (hr : Ris t2.place.toList) (hl : w.params.followText "set-order" = true ∨ t2.led = true) {dm : Bool} {R : Option Bool → Shared → Prop}
    (hR : ∀ h', Heap.SameBut a s.heap h' → TSet w h' a M' fs.size → R (some true) { s with heap := h' }) :
    wpAny (model P w) A (do
      storeSet a fs t2
      if (!dm && t2.tooFull) = true then do
        g (relayAll t2 fs (SetTable.grown fs.size)).2.2
        storeSet a (relayAll t2 fs (SetTable.grown fs.size)).1 (relayAll t2 fs (SetTable.grown fs.size)).2.1
        pure (some true)
      else pure (some true)) R E s := by
  refine wpAny_bind (wpAny_storeSet_of ho hd ?_ (fits_of_scanBound hb1))
  have q1 := store_at (es' := fs) (t' := t2) ho hd
  have sb := Heap.SameBut.update s.heap a (Obj.putSet fs t2)
  by_cases hc : (!dm && t2.tooFull) = true
  · rw [if_pos hc]
    have p := relayAll_perm t2 fs (SetTable.grown fs.size)
    have f3 := relayAll_fits t2 fs (SetTable.grown fs.size)
    have r3 := relayAll_ris t2 fs (SetTable.grown fs.size)
    have l3 := relayAll_led t2 fs (SetTable.grown fs.size)
    generalize relayAll t2 fs (SetTable.grown fs.size) = Z at p f3 r3 l3 ⊢
    obtain ⟨fs2, t3, gv⟩ := Z
    dsimp only at p f3 r3 l3 ⊢
    have hz : fs2.size = fs.size := by
      have := p.length_eq
      simpa using this
    refine wpAny_bind (hg _ _ _ (wpAny_bind (wpAny_storeSet_of q1 rfl ?_ (fits_of_scanBound (by rw [hz]; exact hb1)))))
    have q2 := store_at (es' := fs2) (t' := t3) q1 rfl
    refine wpAny_pure (hR _ (sb.trans (Heap.SameBut.update _ a _)) ⟨_, fs2, _, t3, q2, hex, rfl, fun e he => g1 e (p.mem_iff.mp he), (p.map tOf).nodup_iff.mpr nd1, fun x => (m1 x).trans (p.map tOf).mem_iff.symm, by rw [hz]; exact hb1, f3, hz, r3, ?_⟩)
    exact hl.imp id fun z => by rw [l3]; exact z
  · rw [if_neg hc]
    exact wpAny_pure (hR _ sb ⟨_, fs, _, t2, q1, hex, rfl, g1, nd1, m1, hb1, hf2, rfl, hr, hl⟩)
theorem tx_add {x : Str} {tk : Tok} {Q : Bool → Shared → Prop} (R : TSet w s.heap a M n) (room : n + 1 < scanBound)
    (hQ : ∀ h' b m, Heap.SameBut a s.heap h' → m ≤ n + 1 → TSet w h' a (fun y => M y ∨ y = x) m → Q b { s with heap := h' }) :
    wpAny (model P w) A (setAddHashed a (.str x tk) ((strKind P w).hash x)) Q E s := by
  obtain ⟨o, es, ep, t, R⟩ := R
  have hkey : (strKind P w).is x (.str x tk) = true := strKind_is P w x tk
  have hsc : (Value.str x tk).scannable = true := rfl
  have hel : ElemsOf (strKind P w) es.toList := tx_elems R.el
  unfold setAddHashed setAddHashedIn
  refine wpAny_holding (wpAny_bind (wpAny_setState_of R.at_ R.dat R.fit ?_))
  dsimp only
  rw [byScan_of hsc R.few hel]
  simp only [↓reduceIte]
  unfold setAddByScan
  refine wpAny_bind (wpAny_bind (wpAny_rule (wpAny_bind (wpAny_setScan_of hkey R.at_ R.dat R.fit hel ?_))))
  cases hfi : List.findIdx? (fun e => (strKind P w).is x e.2) es.toList with
  | some j =>
    dsimp only
    obtain ⟨hj, pj, _⟩ := List.findIdx?_eq_some_iff_getElem.mp hfi
    have hx : M x := (R.mem x).2 ((tx_mem (P := P) (w := w) R.el x).2 ⟨es.toList[j], List.getElem_mem hj, pj⟩)
    refine wpAny_pure (wpAny_pure ?_)
    exact hQ s.heap _ n (Heap.SameBut.refl a s.heap) (Nat.le_succ _) (TSet.iff ⟨o, es, ep, t, R⟩ fun y => ⟨fun z => z.elim id fun e => e ▸ hx, .inl⟩)
  | none =>
    dsimp only
    have hnx : x ∉ es.toList.map tOf := fun z => by
      obtain ⟨e, he, q⟩ := (tx_mem (P := P) (w := w) R.el x).1 z
      have c := List.findIdx?_eq_none_iff.mp hfi e he
      rw [q] at c
      cases c
    have gw : ∀ (b : Bool) {s₁ : Shared} {Q' : Unit → Shared → Prop}, Q' () s₁ → wpAny (model P w) A (match b with | true => rule "set.scan.the-table-gave-way" | false => pure ()) Q' E s₁ :=
      fun b _ _ q => by cases b <;> first | exact wpAny_pure q | exact wpAny_rule q
    have p0 := layNew_perm t es ((strKind P w).hash x) (.str x tk)
    have f1 := layNew_fits t es ((strKind P w).hash x) (.str x tk)
    have r1 := layNew_ris t es ((strKind P w).hash x) (.str x tk) R.ris
    have l1 := layNew_led t es ((strKind P w).hash x) (.str x tk)
    generalize layNew t es ((strKind P w).hash x) (.str x tk) = Z at p0 f1 r1 l1 ⊢
    obtain ⟨fs, t1, dm, gv⟩ := Z
    dsimp only at p0 f1 r1 l1 ⊢
    rw [Array.toList_push] at p0
    have pc : fs.toList.Perm (((strKind P w).hash x, Value.str x tk) :: es.toList) := p0.trans (List.perm_append_singleton _ _)
    have pk : (fs.toList.map tOf).Perm (x :: es.toList.map tOf) := pc.map tOf
    have g1 : ∀ e ∈ fs.toList, TextE w e := fun e he => by
      rcases List.mem_cons.mp (pc.mem_iff.mp he) with z | z
      · subst z; exact ⟨x, tk, rfl, rfl⟩
      · exact R.el e z
    have nd1 : (fs.toList.map tOf).Nodup := pk.nodup_iff.mpr (List.nodup_cons.mpr ⟨hnx, R.nd⟩)
    have m1 : ∀ y, (M y ∨ y = x) ↔ y ∈ fs.toList.map tOf := fun y => by
      rw [R.mem y, pk.mem_iff, List.mem_cons]
      exact Or.comm
    have hz : fs.size = n + 1 := by
      have := pc.length_eq
      rw [List.length_cons, Array.length_toList, Array.length_toList, R.num] at this
      exact this
    have hb1 : fs.size < scanBound := by rw [hz]; exact room
    have hl1 : w.params.followText "set-order" = true ∨ t1.led = true := R.ord.imp id fun z => by rw [l1]; exact z
    have fin : ∀ h', Heap.SameBut a s.heap h' → TSet w h' a (fun y => M y ∨ y = x) fs.size → Q true { s with heap := h' } := fun h' sb r => hQ h' true fs.size sb (Nat.le_of_eq hz) r
    refine wpAny_bind (gw _ ?_)
    split
    · refine wpAny_bind ?_
      rw [hashByValue_scannable 8 hsc]
      refine wpAny_pure (tx_tail ?_ R.at_ R.ex R.dat g1 nd1 m1 hb1 ?_ ?_ ?_ ?_)
      · intro b s₁ Q' q; cases b <;> first | exact wpAny_pure q | exact wpAny_rule q
      · first | (split <;> first | exact f1 | exact SetTable.fits_plain_off f1) | exact f1
      · first | (split <;> exact r1) | exact r1
      · first | (split <;> exact hl1) | exact hl1
      · intro h' sb r; dsimp only; exact wpAny_pure (fin h' sb r)
    · refine wpAny_bind (wpAny_pure ?_)
      simp only [↓reduceIte]
      refine tx_tail ?_ R.at_ R.ex R.dat g1 nd1 m1 hb1 f1 r1 hl1 ?_
      · intro b s₁ Q' q; cases b <;> first | exact wpAny_pure q | exact wpAny_rule q
      · intro h' sb r; dsimp only; exact wpAny_pure (fin h' sb r)
/-- the loop of set(iterable) -/
theorem tx_update {I : Addr} {fp wr : List Addr} {G : Array GenState → Array GenState → Prop} {N : Nat} {Pv : Nat → Value → Prop} {St : Nat → Shared → Prop} {R : Result → Shared → Prop}
    (W : WalksS P w A.in1 I fp wr G N Pv St) (S : Addr) (hSf : S ∉ fp) (xs : List Str) (hn : N = xs.length) (hb : xs.length + 1 < scanBound) (hval : ∀ (i : Nat) v, Pv i v → ∃ x t, xs[i]? = some x ∧ v = .str x t) :
    ∀ (k i : Nat) (s : Shared), N - i = k → i ≤ N → St i s → (∃ c, c ≤ i ∧ TSet w s.heap S (fun y => y ∈ xs.take i) c) →
      (∀ s' c, Moved (S :: wr) G s s' → c ≤ N → TSet w s'.heap S (fun y => y ∈ xs) c → R (.ok (.ret .none)) s') →
      codeAny (model P w) A (.builtin "set.update.loop" ⟨[.ref S, .ref I], []⟩) R s := by
  have sw : S ∉ wr := fun q => hSf (W.sub _ q)
  have sub : ∀ b ∈ wr, b ∈ S :: wr := fun b q => List.mem_cons_of_mem _ q
  intro k
  induction k with
  | zero =>
    intro i s hk hi hst ⟨c, hc, hS⟩ hR
    obtain rfl : i = N := by omega
    refine codeAny_builtin F.entry_set_update_loop ?_
    rw [Around.under_plainId F.plain_set_update_loop _]
    show wpAny _ A.in1 (pyNext (.ref I) >>= _) _ _ s
    refine wpAny_bind (W.done s _ _ hst fun s' hm => ?_)
    show wpAny _ A.in1 (ret Value.none) _ _ s'
    rw [List.take_of_length_le (by omega : xs.length ≤ i)] at hS
    exact wpAny_pure (hR s' c (hm.mono sub) hc (hS.at' fun o e => hm.heap S o sw e))
  | succ k ih =>
    intro i s hk hi hst ⟨c, hc, hS⟩ hR
    have hlt : i < N := by omega
    refine codeAny_builtin F.entry_set_update_loop ?_
    rw [Around.under_plainId F.plain_set_update_loop _]
    show wpAny _ A.in1 (pyNext (.ref I) >>= _) _ _ s
    refine wpAny_bind (W.item i s _ _ hlt hst fun v s' hP hst' hm => ?_)
    obtain ⟨z, t, hz, rfl⟩ := hval i v hP
    have hS' : TSet w s'.heap S (fun y => y ∈ xs.take i) c := hS.at' fun o e => hm.heap S o sw e
    show wpAny _ A.in1 (holding [Value.str z t] (setAdd S (.str z t)) >>= _) _ _ s'
    refine wpAny_bind (wpAny_holding ?_)
    unfold setAdd
    refine wpAny_holding (wpAny_bind ((strKind P w).pyHash (k := z) (strKind_is _ _ _ _) ?_))
    refine tx_add (s := { s' with toks := s'.toks + 1 }) hS' (by omega) fun h' b m hsb hm' hS2 => ?_
    have hS3 : TSet w h' S (fun y => y ∈ xs.take (i + 1)) m := hS2.iff fun y => by
      rw [List.take_add_one, hz]
      simp [List.mem_append]
    refine wpAny_pure ⟨plainId_quiet F.plain_set_update_loop _, ih (i + 1) _ (by omega) hlt (W.frame _ s' _ _ hst' (Nat.le_succ _) fun b hb o e => ?_) ⟨m, by omega, hS3⟩ fun s'' c2 hm'' hc'' hS'' => ?_⟩
    · rw [hsb.2 b (fun q : b = S => hSf (by rw [← q]; exact hb))]; exact e
    · refine hR s'' c2 (Moved.trans W.gtrans ((hm.mono sub).then_heap (Nat.le_succ _) fun b o hb e => ?_) hm'') hc'' hS''
      rw [hsb.2 b (fun q : b = S => hb (by rw [q]; exact List.mem_cons_self))]; exact e
end

/-- set.__init__ of a new set and v takes up xs -/
def SetInit (P : Program) (w : World) (A : Around) (E : Value → Shared → Prop) (s : Shared) (v : Value) (xs : List Str) : Prop :=
  ∀ R : Result → Shared → Prop, (∀ (h' : Heap) (tk c : Nat), TSet w h' s.heap.objs.size (fun y => y ∈ xs) c → c ≤ xs.length → (∀ b o, s.heap.get? b = some o → h'.get? b = some o) → R (.ok (.ret .none)) { s with heap := h', toks := tk }) →
    wpAny (model P w) A.in1.in1 (Builtin.«set.__init__» ⟨[.ref s.heap.objs.size, v], []⟩) (fun fin s' => match fin with
      | .done f => R (.ok f) s'
      | .again c' => c'.quiet = true ∧ codeAny (model P w) A.in1 c' R s') (fun e s' => R (.error e) s') { s with heap := s.heap.push (newS w) }
set_option maxHeartbeats 4000000 in
/-- set(x): what is left is the loop over x -/
theorem call_set1 {P : Program} {w : World} {A : Around} {E : Value → Shared → Prop} {s : Shared} {v : Value} {xs : List Str} {Q : Value → Shared → Prop}
    (h : ∀ (h' : Heap) (tk c : Nat), TSet w h' s.heap.objs.size (fun y => y ∈ xs) c → c ≤ xs.length → (∀ b o, s.heap.get? b = some o → h'.get? b = some o) → Q (.ref s.heap.objs.size) { s with heap := h', toks := tk })
    (hrun : SetInit P w A E s v xs) :
    wpAny (model P w) A (call (.type "set") [v]) Q E s := by
  obtain ⟨c, tl, hmro⟩ := F.called_set.mro
  have hmade := F.called_set.made
  have hsub := F.called_set.sub
  refine wpAny_call (codeAny_of_tree ?_)
  show wpAny _ _ (callAny (.type "set") _) _ _ _
  refine wpAny_pure ⟨Code.quiet_builtin _ (by decide +kernel), codeAny_builtin F.entry_type_call ?_⟩
  rw [Around.under_plain (weight_type_call_type "set" [v] []) rfl]
  have h1 := F.called_set.notType
  have h2 := F.called_set.canCreate
  have hct := F.typeCall_set_1 v
  repeat (any_goals (first | assumption | wp_step))
  refine codeAny_mono (code_set_led1 v (E := E) (Q₁ := fun obj s₁ => obj = .ref s.heap.objs.size ∧ s₁ = { s with heap := s.heap.push (newS w) }) ⟨rfl, rfl⟩) fun r s₁ hr => ?_
  cases r with
  | error e => exact hr
  | ok fl =>
    cases fl with
    | ret obj =>
      obtain ⟨rfl, rfl⟩ := hr
      have hS : (s.heap.push (newS w)).get? s.heap.objs.size = some (newS w) := Heap.get?_push_size _ rfl
      have hT : Shared.TypeIs { s with heap := s.heap.push (newS w) } (.ref s.heap.objs.size) "set" := ⟨_, hS, rfl⟩
      have hli := F.called_set.init.lookup
      have hbi := F.called_set.init.bind (.ref s.heap.objs.size)
      repeat (any_goals (first | assumption | wp_step))
      refine codeAny_mono (codeAny_call_builtin (R := wants (fun r s₂ => r = .none ∧ ∃ h' tk c, s₂ = { s with heap := h', toks := tk } ∧ TSet w h' s.heap.objs.size (fun y => y ∈ xs) c ∧ c ≤ xs.length ∧
          (∀ b o, s.heap.get? b = some o → h'.get? b = some o)) E) F.called_set.init.plain F.entry_set_init (check_set_init_1 hT ?_)) fun r₂ s₂ hr₂ => ?_
      · exact hrun _ fun h' tk c q1 q2 q3 => ⟨rfl, h', tk, c, rfl, q1, q2, q3⟩
      · cases r₂ with
        | error e => exact hr₂
        | ok fl₂ =>
          cases fl₂ with
          | ret r =>
            obtain ⟨rfl, h', tk, c', rfl, hS', hc', hk'⟩ := hr₂
            repeat (any_goals (first | assumption | wp_step))
            exact h _ _ _ hS' hc' hk'
          | _ => exact hr₂.elim
    | _ => exact hr.elim

set_option maxHeartbeats 4000000 in
theorem init_list {P : Program} {w : World} {A : Around} {E : Value → Shared → Prop} {s : Shared} {l : Addr} {items : Array Value} {xs : List Str} (hh : A.handled = none) (hl : s.heap.IsList l items) (hit : StrsAre items.toList xs) (hb : xs.length + 1 < scanBound) :
    SetInit P w A E s (.ref l) xs := by
  intro R hR
  have hsz : items.size = xs.length := by rw [← StrsAre.len_eq hit, Array.length_toList]
  have hS : (s.heap.push (newS w)).get? s.heap.objs.size = some (newS w) := Heap.get?_push_size _ rfl
  have hT : Shared.TypeIs { s with heap := s.heap.push (newS w) } (.ref s.heap.objs.size) "set" := ⟨_, hS, rfl⟩
  obtain ⟨ol, hol, hcl, nl, hdl⟩ := hl
  obtain ⟨ocls, odict, odata, oslots⟩ := ol
  simp only at hcl hdl
  subst hcl; subst hdl
  have hol' : (s.heap.push (newS w)).get? l = some { cls := .type "list", dict := odict, data := .seq items nl, slots := oslots } := Heap.get?_push_of_some _ hol
  have hsls := F.sub_list_set
  have hslf := F.sub_list_frozenset
  have hne : (Value.type "list" == Value.type "dict") = false := by decide
  have hl1 : (s.heap.push (newS w)).IsList l items := ⟨_, hol', rfl, nl, rfl⟩
  unfold Builtin.«set.__init__» noKeywords Builtin.Frozenset.updateFrom
  generalize hPI : pyIter = PI
  wp_walk
  subst hPI
  refine wpAny_pyIter_list hl1 (wpAny_bind (wpAny_runValue ?_))
  have ls : l < s.heap.objs.size := Heap.lt_size hol
  have hh3 : A.in1.in1.in1.handled = none := by simp [hh]
  have z1 : (s.heap.push (newS w)).objs.size = s.heap.objs.size + 1 := Heap.size_push ..
  have nI : l ≠ (s.heap.push (newS w)).objs.size := by rw [z1]; exact Nat.ne_of_lt (Nat.lt_succ_of_lt ls)
  have hSf : s.heap.objs.size ∉ [(s.heap.push (newS w)).objs.size, l] := by
    rw [z1]
    simp only [List.mem_cons, List.mem_singleton, List.not_mem_nil, or_false, not_or]
    exact ⟨Nat.ne_of_lt (Nat.lt_succ_self _), Nat.ne_of_gt ls⟩
  have hval : ∀ (i : Nat) (v : Value), items[i]? = some v → ∃ x t, xs[i]? = some x ∧ v = .str x t := fun i v hv => by
    have hi : i < xs.length := by rw [← hsz]; exact (Array.getElem?_eq_some_iff.mp hv).1
    obtain ⟨t, e⟩ := SS.strs_at hit i v (by rw [Array.getElem?_toList]; exact hv)
    refine ⟨xs[i], t, List.getElem?_eq_getElem hi, ?_⟩
    rw [e, List.getD_eq_getElem?_getD, List.getElem?_eq_getElem hi] <;> rfl
  refine tx_update ((Walks.list hh3 _ l nI items).toS) s.heap.objs.size hSf xs hsz hb hval (items.size - 0) 0 _ (by omega) (Nat.zero_le _)
    ⟨⟨_, Heap.get?_push_size _ rfl, rfl, rfl⟩, (hl1.push _)⟩ ?hS0 ?hR
  case hS0 =>
    have hget : ((s.heap.push (newS w)).push { cls := .type "list_iterator", data := .fields #[.ref l, .int 0 0] }).get? s.heap.objs.size = some (newS w) := Heap.get?_push_of_some _ hS
    exact ⟨0, Nat.le_refl 0, tset_new hget fun x q => by simp at q⟩
  case hR =>
    intro s' c' hm hc' hS'
    obtain ⟨h', g2, d', tk', os'⟩ := s'
    have eg : g2 = s.gens := hm.gens
    have ed : d' = s.drawn := hm.drawn
    have eo : os' = s.os := hm.os
    subst eg; subst ed; subst eo
    show wpAny _ _ _ _ _ _
    refine wpAny_pure ?_
    show wpAny _ _ (ret Value.none) _ _ _
    rw [hsz] at hc'
    refine wpAny_pure (hR h' tk' c' hS' hc' fun b o e => ?_)
    have b0 : b < s.heap.objs.size := Heap.lt_size e
    have b2 : b ≠ (s.heap.push (newS w)).objs.size := by rw [z1]; exact Nat.ne_of_lt (Nat.lt_succ_of_lt b0)
    refine hm.heap b o ?_ (Heap.get?_push_of_some _ (Heap.get?_push_of_some _ e))
    simp only [List.mem_cons, List.mem_singleton, List.not_mem_nil, or_false, not_or]
    exact ⟨Nat.ne_of_lt b0, b2⟩

set_option maxHeartbeats 4000000 in
theorem init_tuple {P : Program} {w : World} {A : Around} {E : Value → Shared → Prop} {s : Shared} {l : Addr} {items : Array Value} {xs : List Str} (hh : A.handled = none) (hl : s.heap.IsTuple l items) (hit : StrsAre items.toList xs) (hb : xs.length + 1 < scanBound) :
    SetInit P w A E s (.ref l) xs := by
  intro R hR
  have hsz : items.size = xs.length := by rw [← StrsAre.len_eq hit, Array.length_toList]
  have hS : (s.heap.push (newS w)).get? s.heap.objs.size = some (newS w) := Heap.get?_push_size _ rfl
  have hT : Shared.TypeIs { s with heap := s.heap.push (newS w) } (.ref s.heap.objs.size) "set" := ⟨_, hS, rfl⟩
  obtain ⟨ol, hol, hcl, nl, hdl⟩ := hl
  obtain ⟨ocls, odict, odata, oslots⟩ := ol
  simp only at hcl hdl
  subst hcl; subst hdl
  have hol' : (s.heap.push (newS w)).get? l = some { cls := .type "tuple", dict := odict, data := .seq items nl, slots := oslots } := Heap.get?_push_of_some _ hol
  have hsls := F.sub_tuple_set
  have hslf := F.sub_tuple_frozenset
  have hne : (Value.type "tuple" == Value.type "dict") = false := by decide
  have hl1 : (s.heap.push (newS w)).IsTuple l items := ⟨_, hol', rfl, nl, rfl⟩
  unfold Builtin.«set.__init__» noKeywords Builtin.Frozenset.updateFrom
  generalize hPI : pyIter = PI
  wp_walk
  subst hPI
  refine wpAny_pyIter_tuple hl1 (wpAny_bind (wpAny_runValue ?_))
  have ls : l < s.heap.objs.size := Heap.lt_size hol
  have hh3 : A.in1.in1.in1.handled = none := by simp [hh]
  have z1 : (s.heap.push (newS w)).objs.size = s.heap.objs.size + 1 := Heap.size_push ..
  have nI : l ≠ (s.heap.push (newS w)).objs.size := by rw [z1]; exact Nat.ne_of_lt (Nat.lt_succ_of_lt ls)
  have hSf : s.heap.objs.size ∉ [(s.heap.push (newS w)).objs.size, l] := by
    rw [z1]
    simp only [List.mem_cons, List.mem_singleton, List.not_mem_nil, or_false, not_or]
    exact ⟨Nat.ne_of_lt (Nat.lt_succ_self _), Nat.ne_of_gt ls⟩
  have hval : ∀ (i : Nat) (v : Value), items[i]? = some v → ∃ x t, xs[i]? = some x ∧ v = .str x t := fun i v hv => by
    have hi : i < xs.length := by rw [← hsz]; exact (Array.getElem?_eq_some_iff.mp hv).1
    obtain ⟨t, e⟩ := SS.strs_at hit i v (by rw [Array.getElem?_toList]; exact hv)
    refine ⟨xs[i], t, List.getElem?_eq_getElem hi, ?_⟩
    rw [e, List.getD_eq_getElem?_getD, List.getElem?_eq_getElem hi] <;> rfl
  refine tx_update ((Walks.tuple hh3 _ l nI items).toS) s.heap.objs.size hSf xs hsz hb hval (items.size - 0) 0 _ (by omega) (Nat.zero_le _)
    ⟨⟨_, Heap.get?_push_size _ rfl, rfl, rfl⟩, (hl1.push _)⟩ ?hS0 ?hR
  case hS0 =>
    have hget : ((s.heap.push (newS w)).push { cls := .type "tuple_iterator", data := .fields #[.ref l, .int 0 0] }).get? s.heap.objs.size = some (newS w) := Heap.get?_push_of_some _ hS
    exact ⟨0, Nat.le_refl 0, tset_new hget fun x q => by simp at q⟩
  case hR =>
    intro s' c' hm hc' hS'
    obtain ⟨h', g2, d', tk', os'⟩ := s'
    have eg : g2 = s.gens := hm.gens
    have ed : d' = s.drawn := hm.drawn
    have eo : os' = s.os := hm.os
    subst eg; subst ed; subst eo
    show wpAny _ _ _ _ _ _
    refine wpAny_pure ?_
    show wpAny _ _ (ret Value.none) _ _ _
    rw [hsz] at hc'
    refine wpAny_pure (hR h' tk' c' hS' hc' fun b o e => ?_)
    have b0 : b < s.heap.objs.size := Heap.lt_size e
    have b2 : b ≠ (s.heap.push (newS w)).objs.size := by rw [z1]; exact Nat.ne_of_lt (Nat.lt_succ_of_lt b0)
    refine hm.heap b o ?_ (Heap.get?_push_of_some _ (Heap.get?_push_of_some _ e))
    simp only [List.mem_cons, List.mem_singleton, List.not_mem_nil, or_false, not_or]
    exact ⟨Nat.ne_of_lt b0, b2⟩

/-- sorted(a set of texts): the members, rising -/
theorem sorted_tset {P : Program} {w : World} {A : Around} {E : Value → Shared → Prop} {s : Shared} {a : Addr} {M : Str → Prop} {n : Nat} {Q : Value → Shared → Prop} (R : TSet w s.heap a M n) (hh : A.handled = none) (h64 : n < 64)
    (hQ : ∀ s' p (out : Array Value) (c : Nat) (ys : List Str), (∀ b o, s.heap.get? b = some o → s'.heap.get? b = some o) → s'.gens = s.gens → s'.os = s.os → s.heap.objs.size ≤ p →
      s'.heap.get? p = some (seqObj "list" out c) → StrsAre out.toList ys → sortedS ys = true → ys.Nodup → (∀ x, x ∈ ys ↔ M x) → Q (.ref p) s') :
    wpAny (model P w) A (call (.builtin "sorted") [.ref a]) Q E s := by
  obtain ⟨o, es, ep, t, R⟩ := R
  refine Calls.call_function_entry kind_sorted plain_sorted entry_sorted (args_sorted1 _) ?_
  unfold Builtin.«sorted»
  refine wpAny_bind (m := checkCount "sorted" 1 1 _) (wpAny_pure ?_)
  refine wpAny_bind (collect_set (A := A.in1) hh ⟨o, R.at_, R.ex.1, R.dat⟩ R.fit R.few R.ris R.ord fun s1 vs k1 hz g1 o1 pm => ?_)
  have hvl : vs.length = n := by rw [pm.length_eq, List.length_map, Array.length_toList]; exact R.num
  have all : ∀ l : List Value, (∀ v ∈ l, ∃ e ∈ es.toList, v = e.2) → StrsAre l (l.map fun v => tOf (0, v)) := by
    intro l
    induction l with
    | nil => intro _; exact .nil
    | cons v l ih =>
      intro hv
      obtain ⟨e, he, q⟩ := hv v List.mem_cons_self
      obtain ⟨x, tk, h1, _⟩ := R.el e he
      have hv' : v = .str x tk := q.trans h1
      subst hv'
      exact .cons x tk (ih fun u hu => hv u (List.mem_cons_of_mem _ hu))
  have hI := all vs fun v hv => by
    obtain ⟨e, he, q⟩ := List.mem_map.mp (pm.mem_iff.mp hv)
    exact ⟨e, he, q.symm⟩
  have pk : (vs.map fun v => tOf (0, v)).Perm (es.toList.map tOf) := by
    have q := pm.map fun v => tOf (0, v)
    rw [List.map_map] at q
    exact q
  refine wpAny_bind (wpAny_newList ?_ (by rw [hvl, sizeLine_eq]; omega))
  have hoL : (s1.heap.push (seqObj "list" vs.toArray 0)).get? s1.heap.objs.size = some (seqObj "list" vs.toArray 0) := Heap.get?_push_size _ rfl
  refine wpAny_bind (wpAny_holding (wpAny_call_entry slot_list_sort ⟨_, hoL, rfl⟩ entry_list_sort (list_sort_treeK strKind_oneLt hoL hI.keysOf (fun v₁ v₂ rest e => keyKind_strs (by rw [← e]; exact hI)) (by rw [hvl]; exact h64) fun st' hp hs => ?_) (args_list_sort _)))
  obtain ⟨ys, q1, q2, q3⟩ := sorted_out_str hI hp hs
  obtain ⟨c, hc⟩ := sortedHeap_at (vs := vs) (out := (arrOf st').map (·.2)) hoL
  have pn : ys.Perm (es.toList.map tOf) := q2.trans pk
  refine ⟨_, rfl, wpAny_pure ⟨_, rfl, hQ _ s1.heap.objs.size _ c ys (fun b u e => ?_) g1 o1 hz hc q1 q3 (pn.nodup_iff.mpr R.nd) fun x => by rw [pn.mem_iff, R.mem x]⟩⟩
  have q := k1 b u e
  have hlt := Heap.lt_size q
  show (sortedHeap (s1.heap.push (seqObj "list" vs.toArray 0)) s1.heap.objs.size vs _).get? b = some u
  rw [sortedHeap_old (Nat.ne_of_lt hlt) (by rw [size_push']; exact Nat.lt_succ_of_lt hlt)]
  exact Heap.get?_push_of_some _ q
end STx

set_option Elab.async false
set_option linter.all false
/-! The order of texts; sorting by insertion. -/
namespace OrdS
open PySem PySem.Spec PyProof.Rows

theorem lt_irr : ∀ a : List Nat, ltCps a a = false
  | [] => rfl
  | x :: r => by simp [ltCps, lt_irr r]
theorem lt_tr : ∀ {a b c : List Nat}, ltCps a b = true → ltCps b c = true → ltCps a c = true
  | [], [], _, h, _ => by simp [ltCps] at h
  | [], _ :: _, [], _, h => by simp [ltCps] at h
  | [], _ :: _, _ :: _, _, _ => rfl
  | _ :: _, [], _, h, _ => by simp [ltCps] at h
  | _ :: _, _ :: _, [], _, h => by simp [ltCps] at h
  | x :: a, y :: b, z :: c, h1, h2 => by
    simp only [ltCps, Bool.or_eq_true, Bool.and_eq_true, decide_eq_true_eq, beq_iff_eq] at *
    rcases h1 with h1 | ⟨h1, h1'⟩
    · rcases h2 with h2 | ⟨h2, _⟩
      · exact .inl (Nat.lt_trans h1 h2)
      · exact .inl (h2 ▸ h1)
    · rcases h2 with h2 | ⟨h2, h2'⟩
      · exact .inl (h1 ▸ h2)
      · exact .inr ⟨h1.trans h2, lt_tr h1' h2'⟩
theorem lt_tot : ∀ {a b : List Nat}, ltCps a b = false → ltCps b a = false → a = b
  | [], [], _, _ => rfl
  | [], _ :: _, h, _ => by simp [ltCps] at h
  | _ :: _, [], _, h => by simp [ltCps] at h
  | x :: a, y :: b, h1, h2 => by
    simp only [ltCps, Bool.or_eq_false_iff, Bool.and_eq_false_iff, decide_eq_false_iff_not, beq_eq_false_iff_ne] at h1 h2
    have e : x = y := by omega
    subst e
    have h1' : ltCps a b = false := by rcases h1.2 with q | q; exact absurd rfl q; exact q
    have h2' : ltCps b a = false := by rcases h2.2 with q | q; exact absurd rfl q; exact q
    rw [lt_tot h1' h2']

/-- x < y -/
def lts (x y : Str) : Bool := ltCps x.cps.toList y.cps.toList
theorem lts_irr (x : Str) : lts x x = false := lt_irr _
theorem lts_tr {x y z : Str} (h : lts x y = true) (h' : lts y z = true) : lts x z = true := lt_tr h h'
theorem cps_ext {x y : Str} (h : x.cps.toList = y.cps.toList) : x = y := Str.ext' (Array.toList_inj.mp h)
theorem lts_tot {x y : Str} (h : lts x y = false) (h' : lts y x = false) : x = y := cps_ext (lt_tot h h')
theorem lts_asym {x y : Str} (h : lts x y = true) : lts y x = false := by
  cases q : lts y x with
  | false => rfl
  | true => have := lts_tr h q; rw [lts_irr] at this; cases this
theorem lts_dec (x y : Str) : decide (x.cps.toList < y.cps.toList) = lts x y := (ltCps_eq _ _).symm
/-- not y < x -/
theorem le_tr {x y z : Str} (h : lts y x = false) (h' : lts z y = false) : lts z x = false := by
  cases q : lts z x with
  | false => rfl
  | true =>
    cases r : lts x y with
    | true => rw [lts_tr q r] at h'; cases h'
    | false => rw [lts_tot h r, q] at h'; cases h'
def Le (x y : Str) : Prop := lts y x = false
theorem rising_pw : ∀ (p : Str) (l : List Str), risingS p l = true → (p :: l).Pairwise Le
  | p, [], _ => List.pairwise_singleton _ _
  | p, x :: r, h => by
    have h' : (!lts x p && risingS x r) = true := h
    rw [Bool.and_eq_true, Bool.not_eq_true'] at h'
    have ih := rising_pw x r h'.2
    refine List.pairwise_cons.mpr ⟨fun y hy => ?_, ih⟩
    rcases List.mem_cons.mp hy with e | hy
    · rw [e]; exact h'.1
    · exact le_tr h'.1 ((List.pairwise_cons.mp ih).1 y hy)
theorem sorted_pw : ∀ (l : List Str), sortedS l = true → l.Pairwise Le
  | [], _ => List.Pairwise.nil
  | x :: r, h => rising_pw x r h
theorem pw_eq : ∀ {l m : List Str}, l.Pairwise Le → m.Pairwise Le → l.Perm m → l = m
  | [], m, _, _, h => by rw [List.nil_perm.mp h]
  | x :: l, [], _, _, h => by have := h.length_eq; simp at this
  | x :: l, y :: m, h1, h2, h => by
    have hx : x ∈ y :: m := h.mem_iff.mp List.mem_cons_self
    have hy : y ∈ x :: l := h.mem_iff.mpr List.mem_cons_self
    have e : x = y := by
      rcases List.mem_cons.mp hx with e | hx
      · exact e
      · rcases List.mem_cons.mp hy with e | hy
        · exact e.symm
        · exact lts_tot ((List.pairwise_cons.mp h2).1 x hx) ((List.pairwise_cons.mp h1).1 y hy)
    subst e
    rw [pw_eq (List.pairwise_cons.mp h1).2 (List.pairwise_cons.mp h2).2 (List.perm_cons x |>.mp h)]

/-! insertion -/
def insS (x : Str) : List Str → List Str
  | [] => [x]
  | y :: r => if lts y x then y :: insS x r else x :: y :: r
def ssort (l : List Str) : List Str := l.foldr insS []
theorem insS_perm (x : Str) : ∀ l, (insS x l).Perm (x :: l)
  | [] => List.Perm.refl _
  | y :: r => by
    unfold insS
    split
    · exact ((insS_perm x r).cons y).trans (List.Perm.swap x y r)
    · exact List.Perm.refl _
theorem ssort_perm : ∀ l, (ssort l).Perm l
  | [] => List.Perm.refl _
  | x :: r => (insS_perm x _).trans ((ssort_perm r).cons x)
theorem insS_pw (x : Str) : ∀ {l}, l.Pairwise Le → (insS x l).Pairwise Le
  | [], _ => List.pairwise_singleton _ _
  | y :: r, h => by
    obtain ⟨h1, h2⟩ := List.pairwise_cons.mp h
    unfold insS
    split
    · rename_i hlt
      refine List.pairwise_cons.mpr ⟨fun z hz => ?_, insS_pw x h2⟩
      rcases List.mem_cons.mp ((insS_perm x r).mem_iff.mp hz) with e | hz
      · rw [e]; exact lts_asym hlt
      · exact h1 z hz
    · rename_i hlt
      have hlt : lts y x = false := by simpa using hlt
      refine List.pairwise_cons.mpr ⟨fun z hz => ?_, h⟩
      rcases List.mem_cons.mp hz with e | hz
      · rw [e]; exact hlt
      · exact le_tr hlt (h1 z hz)
theorem ssort_pw : ∀ l, (ssort l).Pairwise Le
  | [] => List.Pairwise.nil
  | x :: r => insS_pw x (ssort_pw r)
theorem ssort_of {l ys : List Str} (h : ys.Perm l) (hs : sortedS ys = true) : ys = ssort l := pw_eq (sorted_pw _ hs) (ssort_pw _) (h.trans (ssort_perm l).symm)
/-- each once -/
def insD (x : Str) : List Str → List Str
  | [] => [x]
  | y :: r => if lts x y then x :: y :: r else if lts y x then y :: insD x r else y :: r
def sset (l : List Str) : List Str := l.foldr insD []
theorem insD_mem (x z : Str) : ∀ l, z ∈ insD x l ↔ z = x ∨ z ∈ l
  | [] => by simp [insD]
  | y :: r => by
    unfold insD
    split
    · simp
    · split
      · rw [List.mem_cons, insD_mem x z r, List.mem_cons]
        constructor
        · rintro (h | h | h)
          · exact .inr (.inl h)
          · exact .inl h
          · exact .inr (.inr h)
        · rintro (h | h | h)
          · exact .inr (.inl h)
          · exact .inl h
          · exact .inr (.inr h)
      · rename_i h1 h2
        have e : x = y := lts_tot (by simpa using h1) (by simpa using h2)
        subst e
        simp
theorem sset_mem (z : Str) : ∀ l, z ∈ sset l ↔ z ∈ l
  | [] => Iff.rfl
  | x :: r => by
    show z ∈ insD x (sset r) ↔ _
    rw [insD_mem, sset_mem z r, List.mem_cons]
def Lt (x y : Str) : Prop := lts x y = true
theorem insD_pw (x : Str) : ∀ {l}, l.Pairwise Lt → (insD x l).Pairwise Lt
  | [], _ => List.pairwise_singleton _ _
  | y :: r, h => by
    obtain ⟨h1, h2⟩ := List.pairwise_cons.mp h
    unfold insD
    split
    · rename_i hlt
      refine List.pairwise_cons.mpr ⟨fun z hz => ?_, h⟩
      rcases List.mem_cons.mp hz with e | hz
      · rw [e]; exact hlt
      · exact lts_tr hlt (h1 z hz)
    · split
      · rename_i hlt
        refine List.pairwise_cons.mpr ⟨fun z hz => ?_, insD_pw x h2⟩
        rcases (insD_mem x z r).mp hz with e | hz
        · rw [e]; exact hlt
        · exact h1 z hz
      · exact h
theorem sset_pw : ∀ l, (sset l).Pairwise Lt
  | [] => List.Pairwise.nil
  | x :: r => insD_pw x (sset_pw r)
theorem pw_nodup {l : List Str} (h : l.Pairwise Lt) : l.Nodup := h.imp fun {a b} q e => by
  subst e
  have q : lts a a = true := q
  rw [lts_irr] at q; cases q
theorem pw_le {l : List Str} (h : l.Pairwise Lt) : l.Pairwise Le := h.imp fun q => lts_asym q
theorem sset_nodup (l : List Str) : (sset l).Nodup := pw_nodup (sset_pw l)
theorem nodup_perm {α : Type} [DecidableEq α] : ∀ {l m : List α}, l.Nodup → m.Nodup → (∀ x, x ∈ l ↔ x ∈ m) → l.Perm m
  | [], m, _, _, h => by
    cases m with
    | nil => exact List.Perm.refl _
    | cons x r => have := (h x).mpr List.mem_cons_self; simp at this
  | x :: l, m, h1, h2, h => by
    obtain ⟨n1, n2⟩ := List.nodup_cons.mp h1
    have hx : x ∈ m := (h x).mp List.mem_cons_self
    have p := List.perm_cons_erase hx
    refine ((nodup_perm n2 (h2.erase x) fun z => ?_).cons x).trans p.symm
    rw [h2.mem_erase_iff]
    constructor
    · intro hz
      exact ⟨fun e => n1 (e ▸ hz), (h z).mp (List.mem_cons_of_mem _ hz)⟩
    · rintro ⟨ne, hz⟩
      rcases List.mem_cons.mp ((h z).mpr hz) with e | hz
      · exact absurd e ne
      · exact hz
theorem sset_of {l ys : List Str} (hs : sortedS ys = true) (nd : ys.Nodup) (hm : ∀ x, x ∈ ys ↔ x ∈ l) : ys = sset l :=
  pw_eq (sorted_pw _ hs) (pw_le (sset_pw l)) (nodup_perm nd (sset_nodup l) fun x => (hm x).trans (sset_mem x l).symm)
theorem sset_unique {l ys : List Str} (hp : ys.Pairwise Lt) (hm : ∀ x, x ∈ ys ↔ x ∈ l) : ys = sset l :=
  pw_eq (pw_le hp) (pw_le (sset_pw l)) (nodup_perm (pw_nodup hp) (sset_nodup l) fun x => (hm x).trans (sset_mem x l).symm)
theorem sset_congr {l m : List Str} (h : ∀ x, x ∈ l ↔ x ∈ m) : sset l = sset m := sset_unique (sset_pw l) fun x => (sset_mem x l).trans (h x)
theorem sset_self {l : List Str} (h : l.Pairwise Lt) : sset l = l := (sset_unique h fun _ => Iff.rfl).symm
end OrdS

set_option Elab.async false
set_option linter.all false
set_option maxRecDepth 100000
set_option maxHeartbeats 4000000
namespace DL
open PySem PySem.Spec PyProof.Rows L2 STx OrdS

def dOpt {α β : Type} (o : Option α) (f : α → T β) : T β := match o with
  | some a => f a
  | none => T.fail
theorem dOpt_inv {α β : Type} {o : Option α} {f : α → T β} {S : Sto} {Qd : β → Sto → Prop} {Ed : Xn → Sto → Prop} (h : dOpt o f S Qd Ed) : ∃ a, o = some a ∧ f a S Qd Ed := by
  cases o with
  | some a => exact ⟨a, rfl, h⟩
  | none => exact h.elim
/-! ### calls of what is built in -/
def CallS (K : PySem.W.Frag) (R : RR) (r : List V → Hp → VK → Prop) (f : List D → T D) : Prop := ∀ (vs : List V) (ds : List D) (H H0 : Hp) (S : Sto) (Qd : D → Sto → Prop) (Ed : Xn → Sto → Prop) (Q : VK), StR K H H0 S → RBs K H H0 S vs ds → f ds S Qd Ed →
  (∀ d S', Qd d S' → ∀ u H' H0', StR K H' H0' S' → Grow H H0 S H' H0' S' → R H H' H0' S' u d → Q u H') → r vs H Q
theorem callS_lf {K : PySem.W.Frag} {E : XK} {R : RR} {r : List V → Hp → VK → Prop} {f : List D → T D} {m : MA} (bk : Back K R) (hs : CallS K R r f) {σ : L2.St} {H : Hp} {Q : VK} (h : lf K E R (fun g => T.bind (m g) f) σ H Q) : tCB r (lab K E m) σ H Q := by
  obtain ⟨g, S, H0, Qd, Ed, rel, hm, hq, he⟩ := h
  refine ⟨g, S, H0, _, Ed, rel, hm, fun ds S1 hf vs H1 H01 st1 gr1 r1 => ?_, he⟩
  exact hs vs ds H1 H01 S1 Qd Ed Q st1 r1 hf fun d S' qd u H' H0' st' gr' r' => hq d S' qd u H' H0' st' (gr1.trans st1 gr') (bk st1 gr1 r')
section
variable {X : Cx} {E : XK} {x : Str} {p pos : Pos} {e : Expr} {es : List Expr} {m : MA} {id Ty : String} {r : List V → Hp → VK → Prop} {f : List D → T D} {R : RR}
theorem x_callB (bk : Back X.K R) (hc : CallR X (.builtin id) r) (hs : CallS X.K R r f) (hm : X.mg x = none) (hv : bootBuiltins x = some (.builtin id)) (ha : XAB X E (e :: es) m) (hg : Gl X x := by rfl) (hn : x ≠ "__name__" := by decide) (hdb : (x == ("__debug__" : Str)) = false := by decide)
    (he : starEach (e :: es) X.env = (false, eval e X.env) :: starEach es X.env := by rfl) (hpl : (backTo pos (starEach es X.env)).any (·.1) = false := by rfl) : PE X (.Call (.Name x p) (e :: es) [] pos) (lf X.K E R fun g => T.bind (m g) f) :=
  pe_w (pe_callB hc hg hm hv ha hn hdb he hpl) fun _ _ _ h => callS_lf bk hs h
theorem x_callTy (bk : Back X.K R) (hc : CallR X (.type Ty) r) (hs : CallS X.K R r f) (hm : X.mg x = none) (hv : bootBuiltins x = some (.type Ty)) (ha : XAB X E (e :: es) m) (hg : Gl X x := by rfl) (hn : x ≠ "__name__" := by decide) (hdb : (x == ("__debug__" : Str)) = false := by decide)
    (he : starEach (e :: es) X.env = (false, eval e X.env) :: starEach es X.env := by rfl) (hpl : (backTo pos (starEach es X.env)).any (·.1) = false := by rfl) : PE X (.Call (.Name x p) (e :: es) [] pos) (lf X.K E R fun g => T.bind (m g) f) :=
  pe_w (pe_callTy hc hg hm hv ha hn hdb he hpl) fun _ _ _ h => callS_lf bk hs h
end
section
variable {K : PySem.W.Frag}
def dLen : List D → T D
  | [.str x] => T.bind (dNeed (x.length ≤ sizeLine)) fun _ => T.pure (.int x.length)
  | [.tup xs] => T.pure (.int xs.length)
  | [.lst xs] => T.pure (.int xs.length)
  | [.frz xs] => T.pure (.int xs.length)
  | _ => T.fail
theorem s_len : CallS K (RF K) (fun xs H Q => ∃ x n, xs = [x] ∧ LenV K x H n ∧ Q (.int n) H) dLen := by
  intro vs ds H H0 S Qd Ed Q st rs hf hq
  unfold dLen at hf
  split at hf
  · obtain ⟨v, rfl, rv⟩ := rs.one
    cases rv.str
    obtain ⟨hz, hf⟩ := hf
    exact ⟨_, _, rfl, ⟨hz, rfl⟩, hq _ S hf _ H H0 st (Grow.refl _ _ _) (.int _)⟩
  · obtain ⟨v, rfl, rv⟩ := rs.one
    obtain ⟨a, xs, rfl, h1, r⟩ := rv.tup
    refine ⟨_, xs.length, rfl, .inr ⟨xs, sqT_sub st.sub h1, rfl⟩, ?_⟩
    rw [r.length]
    exact hq _ S hf _ H H0 st (Grow.refl _ _ _) (.int _)
  · obtain ⟨v, rfl, rv⟩ := rs.one
    obtain ⟨a, xs, rfl, h1, _, r⟩ := rv.lst st
    refine ⟨_, xs.length, rfl, .inl ⟨xs, .of h1, rfl⟩, ?_⟩
    rw [r.length]
    exact hq _ S hf _ H H0 st (Grow.refl _ _ _) (.int _)
  · obtain ⟨v, rfl, rv⟩ := rs.one
    obtain ⟨a, xs, rfl, h1, r⟩ := rv.frz st
    refine ⟨_, xs.length, rfl, .inl ⟨xs, h1, rfl⟩, ?_⟩
    rw [r.length]
    exact hq _ S hf _ H H0 st (Grow.refl _ _ _) (.int _)
  · exact hf.elim
/-- lists of True, False -/
def blsOf : List D → Option (List Bool)
  | [] => some []
  | .bl b :: r => (blsOf r).map (b :: ·)
  | _ => none
theorem blsOf_eq : ∀ {ds : List D} {bs : List Bool}, blsOf ds = some bs → ds = bs.map D.bl
  | [], bs, h => by cases h; rfl
  | .bl b :: r, bs, h => by
    rw [blsOf] at h
    cases q : blsOf r with
    | none => rw [q] at h; cases h
    | some cs => rw [q] at h; cases h; rw [blsOf_eq q]; rfl
  | .non :: _, _, h => by cases h
  | .int _ :: _, _, h => by cases h
  | .str _ :: _, _, h => by cases h
  | .ref _ :: _, _, h => by cases h
  | .ty _ :: _, _, h => by cases h
  | .tup _ :: _, _, h => by cases h
  | .lst _ :: _, _, h => by cases h
  | .frz _ :: _, _, h => by cases h
  | .dic _ _ :: _, _, h => by cases h
theorem blsOf_map : ∀ bs : List Bool, blsOf (bs.map D.bl) = some bs
  | [] => rfl
  | b :: r => by rw [List.map_cons, blsOf, blsOf_map r]; rfl
def dAll : List D → T D
  | [.lst xs] => dOpt (blsOf xs) fun bs => T.pure (.bl (bs.all id))
  | _ => T.fail
def dAny : List D → T D
  | [.lst xs] => dOpt (blsOf xs) fun bs => T.pure (.bl (bs.any id))
  | _ => T.fail
theorem s_all : CallS K (RF K) (rAll K) dAll := by
  intro vs ds H H0 S Qd Ed Q st rs hf hq
  unfold dAll at hf
  split at hf
  · obtain ⟨v, rfl, rv⟩ := rs.one
    obtain ⟨a, xs, rfl, h1, _, r⟩ := rv.lst st
    obtain ⟨bs, hb, hf⟩ := dOpt_inv hf
    rw [blsOf_eq hb] at r
    exact ⟨a, bs, rfl, by rw [← r.bls]; exact .of h1, hq _ S hf _ H H0 st (Grow.refl _ _ _) (.bl _)⟩
  · exact hf.elim
theorem s_any : CallS K (RF K) (rAny K) dAny := by
  intro vs ds H H0 S Qd Ed Q st rs hf hq
  unfold dAny at hf
  split at hf
  · obtain ⟨v, rfl, rv⟩ := rs.one
    obtain ⟨a, xs, rfl, h1, _, r⟩ := rv.lst st
    obtain ⟨bs, hb, hf⟩ := dOpt_inv hf
    rw [blsOf_eq hb] at r
    exact ⟨a, bs, rfl, by rw [← r.bls]; exact .of h1, hq _ S hf _ H H0 st (Grow.refl _ _ _) (.bl _)⟩
  · exact hf.elim
/-- lists of ints -/
def intsOf : List D → Option (List Int)
  | [] => some []
  | .int b :: r => (intsOf r).map (b :: ·)
  | _ => none
theorem intsOf_eq : ∀ {ds : List D} {bs : List Int}, intsOf ds = some bs → ds = bs.map D.int
  | [], bs, h => by cases h; rfl
  | .int b :: r, bs, h => by
    rw [intsOf] at h
    cases q : intsOf r with
    | none => rw [q] at h; cases h
    | some cs => rw [q] at h; cases h; rw [intsOf_eq q]; rfl
  | .non :: _, _, h => by cases h
  | .bl _ :: _, _, h => by cases h
  | .str _ :: _, _, h => by cases h
  | .ref _ :: _, _, h => by cases h
  | .ty _ :: _, _, h => by cases h
  | .tup _ :: _, _, h => by cases h
  | .lst _ :: _, _, h => by cases h
  | .frz _ :: _, _, h => by cases h
  | .dic _ _ :: _, _, h => by cases h
theorem intsOf_map : ∀ bs : List Int, intsOf (bs.map D.int) = some bs
  | [] => rfl
  | b :: r => by rw [List.map_cons, intsOf, intsOf_map r]; rfl
/-- lists of texts -/
def strsOf : List D → Option (List Str)
  | [] => some []
  | .str b :: r => (strsOf r).map (b :: ·)
  | _ => none
theorem strsOf_eq : ∀ {ds : List D} {bs : List Str}, strsOf ds = some bs → ds = bs.map D.str
  | [], bs, h => by cases h; rfl
  | .str b :: r, bs, h => by
    rw [strsOf] at h
    cases q : strsOf r with
    | none => rw [q] at h; cases h
    | some cs => rw [q] at h; cases h; rw [strsOf_eq q]; rfl
  | .non :: _, _, h => by cases h
  | .bl _ :: _, _, h => by cases h
  | .int _ :: _, _, h => by cases h
  | .ref _ :: _, _, h => by cases h
  | .ty _ :: _, _, h => by cases h
  | .tup _ :: _, _, h => by cases h
  | .lst _ :: _, _, h => by cases h
  | .frz _ :: _, _, h => by cases h
  | .dic _ _ :: _, _, h => by cases h
theorem strsOf_map : ∀ bs : List Str, strsOf (bs.map D.str) = some bs
  | [] => rfl
  | b :: r => by rw [List.map_cons, strsOf, strsOf_map r]; rfl
def dSorted : List D → T D
  | [.lst xs] => dOpt (strsOf xs) fun ss => T.bind (dNeed (ss.length < 64)) fun _ => T.pure (.lst ((ssort ss).map D.str))
  | _ => T.fail
theorem s_sorted : CallS K (RN K) (rSortedS K) dSorted := by
  intro vs ds H H0 S Qd Ed Q st rs hf hq
  unfold dSorted at hf
  split at hf
  · obtain ⟨v, rfl, rv⟩ := rs.one
    obtain ⟨a, xs, rfl, h1, _, r⟩ := rv.lst st
    obtain ⟨ss, hb, hf⟩ := dOpt_inv hf
    rw [strsOf_eq hb] at r
    obtain ⟨hz, hf⟩ := hf
    refine ⟨a, ss, rfl, by rw [← r.strs]; exact .of h1, hz, fun ys q hp hs hn => ?_⟩
    obtain rfl := ssort_of hp hs
    obtain ⟨st2, gr2, n0, nS⟩ := alloc_n st hn (.lst ((ssort ss).map V.str))
    exact hq _ S hf _ _ _ st2 gr2 (.inl ⟨q, _, _, rfl, rfl, hn, upd_same, n0, nS, Rps.ofStrs _⟩)
  · exact hf.elim
def dMin2 : List D → T D
  | [.int i, .int j] => T.pure (.int (if j < i then j else i))
  | _ => T.fail
theorem s_min2 : CallS K (RF K) (fun xs H Q => ∃ i j, xs = [.int i, .int j] ∧ Q (.int (if j < i then j else i)) H) dMin2 := by
  intro vs ds H H0 S Qd Ed Q st rs hf hq
  unfold dMin2 at hf
  split at hf
  · obtain ⟨v, w, rfl, rv, rw'⟩ := rs.two
    cases rv.int; cases rw'.int
    exact ⟨_, _, rfl, hq _ S hf _ H H0 st (Grow.refl _ _ _) (.int _)⟩
  · exact hf.elim
def dAbs : List D → T D
  | [.int i] => T.pure (.int (if i < 0 then -i else i))
  | _ => T.fail
theorem s_abs : CallS K (RF K) (fun xs H Q => ∃ i, xs = [.int i] ∧ Q (.int (if i < 0 then -i else i)) H) dAbs := by
  intro vs ds H H0 S Qd Ed Q st rs hf hq
  unfold dAbs at hf
  split at hf
  · obtain ⟨v, rfl, rv⟩ := rs.one
    cases rv.int
    exact ⟨_, rfl, hq _ S hf _ H H0 st (Grow.refl _ _ _) (.int _)⟩
  · exact hf.elim
def dInt1 : List D → T D
  | [.int i] => T.pure (.int i)
  | [.str x] => dOpt (PySem.intText? x) fun n => T.bind (dNeed (x.length ≤ 640)) fun _ => T.pure (.int n)
  | _ => T.fail
theorem s_int1 : CallS K (RF K) (fun xs H Q => ((∃ i, xs = [.int i] ∧ Q (.int i) H) ∨ ∃ k, xs = [.bl k] ∧ Q (.int (if k then 1 else 0)) H) ∨ ∃ a n, xs = [.str a] ∧ PySem.intText? a = some n ∧ a.length ≤ 640 ∧ Q (.int n) H) dInt1 := by
  intro vs ds H H0 S Qd Ed Q st rs hf hq
  unfold dInt1 at hf
  split at hf
  · obtain ⟨v, rfl, rv⟩ := rs.one
    cases rv.int
    exact .inl (.inl ⟨_, rfl, hq _ S hf _ H H0 st (Grow.refl _ _ _) (.int _)⟩)
  · obtain ⟨v, rfl, rv⟩ := rs.one
    cases rv.str
    obtain ⟨n, hn, hf⟩ := dOpt_inv hf
    obtain ⟨hz, hf⟩ := hf
    exact .inr ⟨_, n, rfl, hn, hz, hq _ S hf _ H H0 st (Grow.refl _ _ _) (.int _)⟩
  · exact hf.elim
def dStrI : List D → T D
  | [.int i] => T.bind (dNeed (i.natAbs.log2 < 1920)) fun _ => T.pure (.str (toString i))
  | _ => T.fail
theorem s_strI : CallS K (RF K) (fun xs H Q => ∃ i, xs = [.int i] ∧ i.natAbs.log2 < 1920 ∧ Q (.str (toString i)) H) dStrI := by
  intro vs ds H H0 S Qd Ed Q st rs hf hq
  unfold dStrI at hf
  split at hf
  · obtain ⟨v, rfl, rv⟩ := rs.one
    cases rv.int
    obtain ⟨hz, hf⟩ := hf
    exact ⟨_, rfl, hz, hq _ S hf _ H H0 st (Grow.refl _ _ _) (.str _)⟩
  · exact hf.elim
def dBool1 : List D → T D
  | [.bl i] => T.pure (.bl i)
  | _ => T.fail
theorem s_bool1 : CallS K (RF K) (fun xs H Q => (∃ i, xs = [.int i] ∧ Q (.bl (i != 0)) H) ∨ ∃ k, xs = [.bl k] ∧ Q (.bl k) H) dBool1 := by
  intro vs ds H H0 S Qd Ed Q st rs hf hq
  unfold dBool1 at hf
  split at hf
  · obtain ⟨v, rfl, rv⟩ := rs.one
    cases rv.bl
    exact .inr ⟨_, rfl, hq _ S hf _ H H0 st (Grow.refl _ _ _) (.bl _)⟩
  · exact hf.elim
def dTuple : List D → T D
  | [.lst xs] => T.pure (.tup xs)
  | [.tup xs] => T.pure (.tup xs)
  | _ => T.fail
theorem s_tuple : CallS K (RF K) (fun xs H Q => ∃ p ys, xs = [.ref p] ∧ ((SqL K H p ys ∧ ∀ l, H l = none → Q (.ref l) (upd H l (.tup ys))) ∨ (SqT K H p ys ∧ Q (.ref p) H))) dTuple := by
  intro vs ds H H0 S Qd Ed Q st rs hf hq
  unfold dTuple at hf
  split at hf
  · obtain ⟨v, rfl, rv⟩ := rs.one
    obtain ⟨a, xs, rfl, h1, _, r⟩ := rv.lst st
    refine ⟨a, xs, rfl, .inl ⟨.of h1, fun l hl => ?_⟩⟩
    obtain ⟨st2, gr2⟩ := alloc_f st hl (.tup xs)
    exact hq _ S hf _ _ _ st2 gr2 (.tup (.of upd_same) (r.sub gr2.sub))
  · obtain ⟨v, rfl, rv⟩ := rs.one
    obtain ⟨a, xs, rfl, h1, r⟩ := rv.tup
    exact ⟨a, xs, rfl, .inr ⟨sqT_sub st.sub h1, hq _ S hf _ H H0 st (Grow.refl _ _ _) (.tup h1 r)⟩⟩
  · exact hf.elim
def dList : List D → T D
  | [.lst xs] => T.pure (.lst xs)
  | [.tup xs] => T.pure (.lst xs)
  | _ => T.fail
theorem s_list : CallS K (RN K) (fun xs H Q => ∃ p ys, xs = [.ref p] ∧ (SqL K H p ys ∨ SqT K H p ys) ∧ ∀ l, H l = none → Q (.ref l) (upd H l (.lst ys))) dList := by
  intro vs ds H H0 S Qd Ed Q st rs hf hq
  unfold dList at hf
  split at hf
  · obtain ⟨v, rfl, rv⟩ := rs.one
    obtain ⟨a, xs, rfl, h1, _, r⟩ := rv.lst st
    refine ⟨a, xs, rfl, .inl (.of h1), fun l hl => ?_⟩
    obtain ⟨st2, gr2, n0, nS⟩ := alloc_n st hl (.lst xs)
    exact hq _ S hf _ _ _ st2 gr2 (.inl ⟨l, _, _, rfl, rfl, hl, upd_same, n0, nS, r⟩)
  · obtain ⟨v, rfl, rv⟩ := rs.one
    obtain ⟨a, xs, rfl, h1, r⟩ := rv.tup
    refine ⟨a, xs, rfl, .inr (sqT_sub st.sub h1), fun l hl => ?_⟩
    obtain ⟨st2, gr2, n0, nS⟩ := alloc_n st hl (.lst xs)
    exact hq _ S hf _ _ _ st2 gr2 (.inl ⟨l, _, _, rfl, rfl, hl, upd_same, n0, nS, r⟩)
  · exact hf.elim
/-- sum of ints -/
def dSum : List D → T D
  | [.lst xs] => dOpt (intsOf xs) fun ns => T.pure (.int ns.sum)
  | _ => T.fail
theorem s_sum : CallS K (RF K) (rSum K) dSum := by
  intro vs ds H H0 S Qd Ed Q st rs hf hq
  unfold dSum at hf
  split at hf
  · obtain ⟨v, rfl, rv⟩ := rs.one
    obtain ⟨a, xs, rfl, h1, _, r⟩ := rv.lst st
    obtain ⟨bs, hb, hf⟩ := dOpt_inv hf
    rw [intsOf_eq hb] at r
    exact ⟨a, bs, rfl, by rw [← r.ints]; exact .of h1, hq _ S hf _ H H0 st (Grow.refl _ _ _) (.int _)⟩
  · exact hf.elim
/-- isinstance -/
def tyN : D → Option String
  | .non => some "NoneType"
  | .bl _ => some "bool"
  | .int _ => some "int"
  | .str _ => some "str"
  | .tup _ => some "tuple"
  | .lst _ => some "list"
  | _ => none
def dIsi : List D → T D
  | [d, .ty n] => dOpt (tyN d) fun t => dOpt (kitB t n) fun b => T.pure (.bl b)
  | _ => T.fail
theorem RB.tyX {Ha H H0 : Hp} {S : Sto} (st : StR K H H0 S) {v : V} {d : D} {t : String} (h : RB K Ha H H0 S v d) (ht : tyN d = some t) : TyX K H v (.type t) := by
  cases d with
  | non => cases h.non; cases ht; exact .base .non
  | bl b => cases h.bl; cases ht; exact .base (.bl b)
  | int b => cases h.int; cases ht; exact .base (.int b)
  | str b => cases h.str; cases ht; exact .base (.str b)
  | tup xs =>
    obtain ⟨a, ys, rfl, h1, r⟩ := h.tup
    cases ht
    rcases h1 with (h1 | ⟨o, h1⟩) | ⟨o, its, n, h1, h2, _⟩
    · exact .base (.tup (st.sub _ _ h1))
    · exact .fTuple (st.sub _ _ h1)
    · exact .kTuple h1 h2
  | lst xs =>
    obtain ⟨a, ys, rfl, h1, _, r⟩ := h.lst st
    cases ht
    exact .base (.lst h1)
  | _ => cases ht
theorem s_isi : CallS K (RF K) (rIsi K) dIsi := by
  intro vs ds H H0 S Qd Ed Q st rs hf hq
  unfold dIsi at hf
  split at hf
  · rename_i d n
    obtain ⟨v, w, rfl, rv, rw'⟩ := rs.two
    cases rw'.ty
    obtain ⟨t, ht, hf⟩ := dOpt_inv hf
    obtain ⟨b, hb, hf⟩ := dOpt_inv hf
    exact ⟨v, _, .type t, .type n, b, rfl, .ty n, rv.tyX st ht, kit_ty hb, hq _ S hf _ H H0 st (Grow.refl _ _ _) (.bl _)⟩
  · exact hf.elim
end

/-! ### sets of texts -/
abbrev TSO (w : World) (a : Addr) (M : Str → Prop) (n : Nat) : HO := .ext fun h => TSet w h a M n
def rSetTx (K : PySem.W.Frag) (w : World) : List V → Hp → VK → Prop := fun xs H Q => ∃ (p : Addr) (ys : List Str), xs = [.ref p] ∧ (SqL K H p (ys.map V.str) ∨ SqT K H p (ys.map V.str)) ∧ ys.length + 1 < scanBound ∧
  ∀ a n, H a = none → Q (.ref a) (upd H a (TSO w a (fun y => y ∈ ys) n))
theorem sh_same (s s' : Shared) (h : s'.os = s.os) : ({ s with heap := s'.heap, gens := s'.gens, drawn := s'.drawn, toks := s'.toks } : Shared) = s' := by
  cases s; cases s'; cases h; rfl
theorem tso_new {w : World} {P : Program} {H : Hp} {h : Heap} {a : Addr} {M : Str → Prop} {n : Nat} (R : TSet w h a M n) : ObjOk P w H h a (TSO w a M n) := by
  obtain ⟨o, es, ep, t, R'⟩ := id R
  exact ⟨R, ⟨o, R'.at_⟩, fun h1 h2 q k => q.at' k⟩
theorem cr_setTx {X : Cx} (hc : X.calm = true) : CallR X (.type "set") (rSetTx X.K X.w) := by
  intro pins s σ H xs us Q I r h
  obtain ⟨p, ys, rfl, hs, hz, q⟩ := h
  rw [Vals.ref1 r]
  have fin : ∀ (h' : Heap) (tk c : Nat), TSet X.w h' s.heap.objs.size (fun y => y ∈ ys) c → c ≤ ys.length → (∀ b o, s.heap.get? b = some o → h'.get? b = some o) → EP X pins σ Q (.ref s.heap.objs.size) { s with heap := h', toks := tk } := fun h' tk c R _ k =>
    ⟨.ref _, _, I.laid (t' := tk) k (Nat.le_refl _) (tso_new R), rfl, q _ c (I.hok.fresh (Nat.le_refl _))⟩
  refine call_set1 (xs := ys) fin ?_
  rcases hs with hs | hs
  · obtain ⟨its, rv, pl, _⟩ := I.list hs
    exact init_list (I.ok.hd hc) pl.isList (by simpa using rv.strs) hz
  · obtain ⟨its, rv, pl, _⟩ := I.tuple hs
    exact init_tuple (I.ok.hd hc) (show s.heap.IsTuple p its.toArray from pl) (by simpa using rv.strs) hz
def rSortedTx (w : World) : List V → Hp → VK → Prop := fun vs H Q => ∃ (a : Addr) (ys : List Str) (n : Nat), vs = [.ref a] ∧ H a = some (TSO w a (fun y => y ∈ ys) n) ∧ (sset ys).length < 64 ∧
  ∀ q, H q = none → Q (.ref q) (upd H q (.lst ((sset ys).map V.str)))
theorem cr_sortedTx {X : Cx} (hc : X.calm = true) : CallR X (.builtin "sorted") (rSortedTx X.w) := by
  intro pins s σ H xs us Q I r h
  obtain ⟨a, ys, n, rfl, ha, hz, q⟩ := h
  rw [Vals.ref1 r]
  have R : TSet X.w s.heap a (fun y => y ∈ ys) n := (I.hok a _ ha).1
  have hn : n = (sset ys).length := by
    obtain ⟨o, es, ep, t, R'⟩ := id R
    have p := nodup_perm R'.nd (sset_nodup ys) fun x => (R'.mem x).symm.trans (sset_mem x ys).symm
    rw [← p.length_eq, List.length_map, Array.length_toList, R'.num]
  refine sorted_tset R (I.ok.hd hc) (by rw [hn]; exact hz) fun s' p out c zs k g o hp ho hS hs nd hm => ?_
  obtain rfl := sset_of hs nd hm
  have nH : H p = none := I.hok.fresh hp
  have hlen : ((sset ys).map V.str).length ≤ sizeLine := by rw [List.length_map]; exact small64 hz
  have J : Inv X pins σ (upd H p (.lst ((sset ys).map V.str))) { s with heap := s'.heap, gens := s'.gens, drawn := s'.drawn, toks := s'.toks } :=
    I.call (ch := []) (Un.laid k hp nH) (I.hok.laid k hp ⟨hlen, out.toList, c, vals_of_strs hS, ho⟩) (by rw [g]; exact I.bare) (fun _ z => nomatch z)
  rw [sh_same s s' o] at J
  exact ⟨.ref p, _, J, rfl, q p nH⟩
def strsIn : D → Option (List Str)
  | .lst xs => strsOf xs
  | .tup xs => strsOf xs
  | _ => none
theorem RB.strsIn {K : PySem.W.Frag} {Ha H H0 : Hp} {S : Sto} (st : StR K H H0 S) {v : V} {d : D} {ss : List Str} (h : RB K Ha H H0 S v d) (hd : strsIn d = some ss) : ∃ p, v = .ref p ∧ (SqL K H p (ss.map V.str) ∨ SqT K H p (ss.map V.str)) := by
  cases d with
  | lst xs =>
    obtain ⟨a, ys, rfl, h1, _, r⟩ := h.lst st
    rw [strsOf_eq (show strsOf xs = some ss from hd)] at r
    exact ⟨a, rfl, .inl (by rw [← r.strs]; exact .of h1)⟩
  | tup xs =>
    obtain ⟨a, ys, rfl, h1, r⟩ := h.tup
    rw [strsOf_eq (show strsOf xs = some ss from hd)] at r
    exact ⟨a, rfl, .inr (by rw [← r.strs]; exact sqT_sub st.sub h1)⟩
  | _ => cases hd
/-- sorted(set(e)), texts -/
def dSset (d : D) : T D := dOpt (strsIn d) fun ss => T.bind (dNeed (ss.length + 1 < scanBound ∧ (sset ss).length < 64)) fun _ => T.pure (.lst ((sset ss).map D.str))
theorem x_sset {X : Cx} {E : XK} {e : Expr} {m : ME} {p p2 pos pos2 : Pos} (hc : X.calm = true) (hm1 : X.mg "sorted" = none) (hm2 : X.mg "set" = none) (ha : XB X E e m) (hg1 : Gl X "sorted" := by rfl) (hg2 : Gl X "set" := by rfl)
    (hs : starEach [e] X.env = (false, eval e X.env) :: starEach [] X.env := by rfl)
    (hs2 : starEach [Expr.Call (.Name "set" p2) [e] [] pos2] X.env = (false, eval (Expr.Call (.Name "set" p2) [e] [] pos2) X.env) :: starEach [] X.env := by rfl) :
    XN X E (.Call (.Name "sorted" p) [.Call (.Name "set" p2) [e] [] pos2] [] pos) (fun g => T.bind (m g) dSset) := by
  refine pe_w (pe_callB (cr_sortedTx hc) hg1 hm1 (by decide +kernel) (pa_cons (pe_callTy (cr_setTx hc) hg2 hm2 (by decide +kernel) (pa_cons ha pa_nil hs) (by decide) (by decide) hs rfl) pa_nil hs2) (by decide) (by decide) hs2 rfl) fun σ H Q ⟨g, S, H0, Qd, Ed, rel, hm, hq, he⟩ => ?_
  refine ⟨g, S, H0, _, Ed, rel, hm, fun d S1 hf v H1 H01 st1 gr1 r1 => ?_, he⟩
  obtain ⟨ss, hd, hf⟩ := dOpt_inv (show dOpt (strsIn d) _ S1 Qd Ed from hf)
  · skip
    obtain ⟨⟨z1, z2⟩, hf⟩ := hf
    obtain ⟨q, rfl, hp⟩ := r1.strsIn st1 hd
    refine ⟨q, ss, rfl, hp, z1, fun a n ha => ⟨a, ss, n, rfl, upd_same, z2, fun b hb => ?_⟩⟩
    obtain ⟨st2, gr2, n0, nS⟩ := alloc_n st1 ha (TSO X.w a (fun y => y ∈ ss) n)
    obtain ⟨st3, gr3, n03, nS3⟩ := alloc_n st2 hb (.lst ((sset ss).map V.str))
    have g13 := (gr1.trans st1 gr2).trans st2 gr3
    have nH : H b = none := by
      cases z : H b with
      | none => rfl
      | some o => exact absurd hb ((gr1.trans st1 gr2).there st2 (by rw [z]; exact fun z => nomatch z))
    exact hq _ S1 hf _ _ _ st3 g13 (.inl ⟨b, _, _, rfl, rfl, nH, upd_same, n03, nS3, Rps.ofStrs _⟩)
end DL

set_option Elab.async false
set_option linter.all false
set_option maxRecDepth 100000
set_option maxHeartbeats 4000000
namespace DL
open PySem PySem.Spec PyProof.Rows L2 STx OrdS

/-! ### slots stored, wiped -/
theorem Rel.set {K : PySem.W.Frag} {σ : L2.St} {H H0 : Hp} {S : Sto} {g : Sg} (r : Rel K σ H H0 S g) {v : V} {d : D} (h : Rp K H0 v d) (i : Nat) : Rel K (σ.set i (some v)) H H0 S (g.set i (.va d)) where
  st := r.st
  len := by rw [List.length_set, List.length_set, r.len]
  sl := fun j s e => by
    by_cases hj : i = j
    · subst hj
      by_cases hi : i < g.length
      · rw [List.getElem?_set_self hi] at e
        cases e
        exact ⟨v, by rw [List.getElem?_set_self (by rw [r.len]; exact hi)], h⟩
      · rw [List.getElem?_eq_none (by rw [List.length_set]; omega)] at e; cases e
    · rw [List.getElem?_set_ne hj] at e ⊢
      exact r.sl j s e
  di := fun a b sa sb p hab ha hb oa ob h1 h2 => by
    have na : i ≠ a := fun z => by
      subst z
      by_cases hi : i < g.length
      · rw [List.getElem?_set_self hi] at ha; cases ha; cases oa
      · rw [List.getElem?_eq_none (by rw [List.length_set]; omega)] at ha; cases ha
    have nb : i ≠ b := fun z => by
      subst z
      by_cases hi : i < g.length
      · rw [List.getElem?_set_self hi] at hb; cases hb; cases ob
      · rw [List.getElem?_eq_none (by rw [List.length_set]; omega)] at hb; cases hb
    rw [List.getElem?_set_ne na] at ha h1
    rw [List.getElem?_set_ne nb] at hb h2
    exact r.di a b sa sb p hab ha hb oa ob h1 h2
/-- a slot forgotten -/
theorem Rel.un {K : PySem.W.Frag} {σ : L2.St} {H H0 : Hp} {S : Sto} {g : Sg} (r : Rel K σ H H0 S g) (o : Option V) (i : Nat) : Rel K (σ.set i o) H H0 S (g.set i .un) where
  st := r.st
  len := by rw [List.length_set, List.length_set, r.len]
  sl := fun j s e => by
    by_cases hj : i = j
    · subst hj
      by_cases hi : i < g.length
      · rw [List.getElem?_set_self hi] at e; cases e; exact True.intro
      · rw [List.getElem?_eq_none (by rw [List.length_set]; omega)] at e; cases e
    · rw [List.getElem?_set_ne hj] at e ⊢
      exact r.sl j s e
  di := fun a b sa sb p hab ha hb oa ob h1 h2 => by
    have na : i ≠ a := fun z => by
      subst z
      by_cases hi : i < g.length
      · rw [List.getElem?_set_self hi] at ha; cases ha; cases oa
      · rw [List.getElem?_eq_none (by rw [List.length_set]; omega)] at ha; cases ha
    have nb : i ≠ b := fun z => by
      subst z
      by_cases hi : i < g.length
      · rw [List.getElem?_set_self hi] at hb; cases hb; cases ob
      · rw [List.getElem?_eq_none (by rw [List.length_set]; omega)] at hb; cases hb
    rw [List.getElem?_set_ne na] at ha h1
    rw [List.getElem?_set_ne nb] at hb h2
    exact r.di a b sa sb p hab ha hb oa ob h1 h2
def wipeG (g : Sg) : List Nat → Sg
  | [] => g
  | v :: vs => (wipeG g vs).set v .un
theorem Rel.wipe {K : PySem.W.Frag} {σ : L2.St} {H H0 : Hp} {S : Sto} {g : Sg} (r : Rel K σ H H0 S g) : ∀ vs : List Nat, Rel K (L2.wipe σ vs) H H0 S (wipeG g vs)
  | [] => r
  | v :: vs => (r.wipe vs).un none v
theorem wipe_get {σ : L2.St} (j : Nat) : ∀ vs : List Nat, (L2.wipe σ vs)[j]? = if j ∈ vs then (σ[j]?).map fun _ => none else σ[j]?
  | [] => by simp [L2.wipe]
  | v :: vs => by
    unfold L2.wipe
    by_cases hv : v = j
    · subst hv
      rw [if_pos List.mem_cons_self]
      by_cases hl : v < σ.length
      · rw [List.getElem?_set_self (by rw [wipe_length]; exact hl), List.getElem?_eq_getElem hl] <;> rfl
      · rw [List.getElem?_eq_none (by rw [List.length_set, wipe_length]; omega), List.getElem?_eq_none (by omega)] <;> rfl
    · rw [List.getElem?_set_ne hv, wipe_get j vs]
      have e : (j ∈ v :: vs) ↔ j ∈ vs := by simp [Ne.symm hv]
      by_cases hj : j ∈ vs
      · rw [if_pos hj, if_pos (e.mpr hj)]
      · rw [if_neg hj, if_neg (fun z => hj (e.mp z))]
theorem wipe_same {σ σ' : L2.St} {vs is : List Nat} (hi : ∀ i ∈ is, i ∈ vs) (hl : σ'.length = σ.length) (h : ∀ j, j ∉ is → σ'[j]? = σ[j]?) : L2.wipe σ' vs = L2.wipe σ vs := by
  refine List.ext_getElem? fun j => ?_
  rw [wipe_get, wipe_get]
  by_cases hj : j ∈ vs
  · rw [if_pos hj, if_pos hj]
    by_cases hlt : j < σ.length
    · rw [List.getElem?_eq_getElem hlt, List.getElem?_eq_getElem (by rw [hl]; exact hlt)] <;> rfl
    · rw [List.getElem?_eq_none (by omega), List.getElem?_eq_none (by omega)]
  · rw [if_neg hj, if_neg hj]
    exact h j fun z => hj (hi j z)
theorem wipe_wipe {σ : L2.St} {vs : List Nat} : L2.wipe (L2.wipe σ vs) vs = L2.wipe σ vs := by
  refine List.ext_getElem? fun j => ?_
  rw [wipe_get, wipe_get]
  by_cases hj : j ∈ vs
  · rw [if_pos hj, if_pos hj]; cases σ[j]? <;> rfl
  · rw [if_neg hj, if_neg hj]

/-! ### subscripts, slices -/
@[irreducible] def dIxR (a : Addr) (i : Int) : T D := fun S Q E => match S a with
    | some .src => (i = 0 ∧ ∀ c : Int, 0 ≤ c → c < 2 ^ srcBits → Q (.int c) S) ∨ (i = 1 ∧ ∀ c : Int, 0 ≤ c → c < 2147483648 → Q (.int c) S)
    | some (.lst xs) => dOpt (atI xs i) (fun d => T.pure d) S Q E
    | _ => False
def dIx : D → D → T D
  | .tup xs, .int i => dOpt (atI xs i) fun d => T.pure d
  | .lst xs, .int i => dOpt (atI xs i) fun d => T.pure d
  | .frz xs, .int i => dOpt (atI xs i) fun d => T.pure d
  | .str x, .int i => T.bind (dNeed (x.length ≤ sizeLine)) fun _ => dOpt (atI x.cps.toList i) fun c => T.pure (.str ⟨#[c]⟩)
  | .ref a, .int i => dIxR a i
  | _, _ => T.fail
theorem Rps.atI {K : PySem.W.Frag} {H0 : Hp} {xs : List V} {ds : List D} (r : Rps K H0 xs ds) {i : Int} {d : D} (h : L2.atI ds i = some d) : ∃ v, L2.atI xs i = some v ∧ Rp K H0 v d := by
  unfold L2.atI at h ⊢
  rw [r.length]
  cases q : ixN ds.length i with
  | none => rw [q] at h; cases h
  | some j => rw [q] at h; exact r.get h
section
variable {K : PySem.W.Frag}
theorem s_ix : OpS K (RF K) (rIx K) dIx := by
  intro v w a b H H0 S Qd Ed Q st ra rb hf hq
  unfold dIx at hf
  split at hf
  · obtain ⟨d, hd, hf⟩ := dOpt_inv hf
    obtain ⟨p, xs, rfl, h1, r⟩ := ra.tup
    cases rb.int
    obtain ⟨u, hu, ru⟩ := r.atI hd
    exact .inr (.inl ⟨p, xs, _, u, rfl, rfl, sqT_sub st.sub h1, hu, hq _ S hf _ H H0 st (Grow.refl _ _ _) ru⟩)
  · obtain ⟨d, hd, hf⟩ := dOpt_inv hf
    obtain ⟨p, xs, rfl, h1, _, r⟩ := ra.lst st
    cases rb.int
    obtain ⟨u, hu, ru⟩ := r.atI hd
    exact .inl ⟨p, xs, _, u, rfl, rfl, .of h1, hu, hq _ S hf _ H H0 st (Grow.refl _ _ _) ru⟩
  · obtain ⟨d, hd, hf⟩ := dOpt_inv hf
    obtain ⟨p, xs, rfl, h1, r⟩ := ra.frz st
    cases rb.int
    obtain ⟨u, hu, ru⟩ := r.atI hd
    exact .inl ⟨p, xs, _, u, rfl, rfl, h1, hu, hq _ S hf _ H H0 st (Grow.refl _ _ _) ru⟩
  · cases ra.str; cases rb.int
    obtain ⟨hz, hf⟩ := hf
    obtain ⟨c, hc, hf⟩ := dOpt_inv hf
    exact .inr (.inr ⟨_, _, c, rfl, rfl, hz, hc, hq _ S hf _ H H0 st (Grow.refl _ _ _) (.str _)⟩)
  · rename_i a i
    cases ra.ref; cases rb.int
    unfold dIxR at hf
    cases e : S a with
    | none => rw [e] at hf; exact hf.elim
    | some mo =>
      rw [e] at hf
      have rm := st.sto a mo e
      cases mo with
      | src =>
        obtain ⟨c, s, h1, c0, c1, s0, s1⟩ := rm
        rcases hf with ⟨rfl, hf⟩ | ⟨rfl, hf⟩
        · exact .inl ⟨a, _, 0, .int c, rfl, rfl, .of h1, rfl, hq _ S (hf c c0 c1) _ H H0 st (Grow.refl _ _ _) (.int _)⟩
        · exact .inl ⟨a, _, 1, .int s, rfl, rfl, .of h1, rfl, hq _ S (hf s s0 s1) _ H H0 st (Grow.refl _ _ _) (.int _)⟩
      | lst ds =>
        obtain ⟨xs, h1, r⟩ := rm
        obtain ⟨d, hd, hf⟩ := dOpt_inv hf
        obtain ⟨u, hu, ru⟩ := r.atI hd
        exact .inl ⟨a, xs, _, u, rfl, rfl, .of h1, hu, hq _ S hf _ H H0 st (Grow.refl _ _ _) ru⟩
      | _ => exact hf.elim
  · exact hf.elim
end
def cutD {α : Type} (xs : List α) (lo hi : Option Int) : List α := (xs.drop (HT.sIx xs.length 0 lo)).take (HT.sIx xs.length xs.length hi - HT.sIx xs.length 0 lo)
theorem Rps.cut {K : PySem.W.Frag} {H0 : Hp} {xs : List V} {ds : List D} (r : Rps K H0 xs ds) (lo hi : Option Int) : Rps K H0 (cutV xs lo hi) (cutD ds lo hi) := by
  unfold cutV cutD
  rw [r.length]
  exact (r.drop _).take _
abbrev MO' := Sg → T (Option Int)
def lo (K : PySem.W.Frag) (E : XK) (m : MO') : TO := fun σ H Q => ∃ g S H0 Qd Ed, Rel K σ H H0 S g ∧ m g S Qd Ed ∧
  (∀ o S', Qd o S' → ∀ H' H0', StR K H' H0' S' → Grow H H0 S H' H0' S' → Q o H') ∧ ∀ x S', Ed x S' → EX K E H H0 S x S'
abbrev XO (X : Cx) (E : XK) (e : Option Expr) (m : MO') : Prop := PO X e (lo X.K E m)
theorem po_w {X : Cx} {e : Option Expr} {t t' : TO} (h : PO X e t) (w : ∀ σ H Q, t' σ H Q → t σ H Q) : PO X e t' := ⟨fun pins s σ H Q I q => h.run pins s σ H Q I (w σ H Q q)⟩
def dAsI : D → T Int
  | .int i => T.pure i
  | _ => T.fail
theorem dAsI_inv {d : D} {S : Sto} {Qd : Int → Sto → Prop} {Ed : Xn → Sto → Prop} (h : dAsI d S Qd Ed) : ∃ b, d = .int b ∧ Qd b S := by
  cases d with
  | int b => exact ⟨b, rfl, h⟩
  | _ => exact h.elim
def dSl (d : D) (l u : Option Int) : T D := match d with
  | .str x => T.bind (dNeed (x.length ≤ sizeLine)) fun _ => T.pure (.str (cutS x l u))
  | .tup xs => T.pure (.tup (cutD xs l u))
  | .lst xs => T.pure (.lst (cutD xs l u))
  | _ => T.fail
section
variable {X : Cx} {E : XK} {e a b : Expr} {l u : Option Expr} {pos p2 : Pos} {m ma mb : ME} {ml mu : MO'}
theorem o_non : XO X E none (fun _ => T.pure none) := po_w po_none fun σ H Q ⟨g, S, H0, Qd, Ed, rel, hm, hq, he⟩ => hq none S hm H H0 rel.st (Grow.refl _ _ _)
theorem o_som (h : XB X E e m) : XO X E (some e) (fun g => T.bind (m g) fun d => T.bind (dAsI d) fun i => T.pure (some i)) := by
  refine po_w (po_some h) fun σ H Q ⟨g, S, H0, Qd, Ed, rel, hm, hq, he⟩ => ?_
  refine ⟨g, S, H0, _, Ed, rel, hm, fun d S1 hf v H1 H01 st1 gr1 r1 => ?_, he⟩
  obtain ⟨i, rfl, hf⟩ := dAsI_inv hf
  cases r1.int
  exact ⟨i, rfl, hq _ S1 hf H1 H01 st1 gr1⟩
theorem x_ix (ha : XB X E a ma) (hb : XB X E b mb) (hs : PlainIx b := by intro _ _; rfl) : XE X E (.Subscript a b pos) (mb2 dIx ma mb) := pe_w (pe_ix ix_seq ha hb hs) fun _ _ _ h => opS_lf back_F s_ix h
theorem x_slice (ha : XB X E e m) (hl : XO X E l ml) (hu : XO X E u mu) : XE X E (.Subscript e (.Slice l u none p2) pos) (fun g => T.bind (m g) fun d => T.bind (ml g) fun i => T.bind (mu g) fun j => dSl d i j) := by
  refine pe_w (pe_slice (sl_str.or (sl_tupA.or sl_list)) ha hl hu) fun σ H Q ⟨g, S, H0, Qd, Ed, rel, hm, hq, he⟩ => ?_
  refine ⟨g, S, H0, _, Ed, rel, hm, fun d S1 hf v H1 H01 st1 gr1 r1 => ?_, he⟩
  refine ⟨g, S1, H01, _, Ed, rel.grow st1 gr1, hf, fun i S2 hf2 H2 H02 st2 gr2 => ?_, fun x S' ex => (he x S' ex).grow st1 gr1⟩
  have g12 := gr1.trans st1 gr2
  refine ⟨g, S2, H02, _, Ed, rel.grow st2 g12, hf2, fun j S3 hf3 H3 H03 st3 gr3 => ?_, fun x S' ex => (he x S' ex).grow st2 g12⟩
  have g13 := g12.trans st2 gr3
  have r3 := RB.grow (Hb := H3) (gr2.trans st2 gr3) r1
  unfold dSl at hf3
  split at hf3
  · cases r3.str
    obtain ⟨hz, hf3⟩ := hf3
    exact .inl ⟨_, rfl, hz, hq _ S3 hf3 _ H3 H03 st3 g13 (.str _)⟩
  · obtain ⟨p, xs, rfl, h1, r⟩ := r3.tup
    refine .inr (.inl ⟨p, xs, rfl, sqT_sub st3.sub h1, fun hw => ?_, fun hw q hn => ?_⟩)
    · have e1 : cutV xs i j = xs := by
        unfold cutV
        rw [hw.1, hw.2, List.drop_zero, Nat.sub_zero, List.take_length]
      have r' := r.cut i j
      rw [e1] at r'
      exact hq _ S3 hf3 _ H3 H03 st3 g13 (.tup h1 r')
    · obtain ⟨st4, gr4⟩ := alloc_f st3 hn (.tup (cutV xs i j))
      exact hq _ S3 hf3 _ _ _ st4 (g13.trans st3 gr4) (.tup (.of upd_same) ((r.cut i j).sub gr4.sub))
  · obtain ⟨p, xs, rfl, h1, _, r⟩ := r3.lst st3
    refine .inr (.inr ⟨p, xs, rfl, .of h1, fun q hn => ?_⟩)
    obtain ⟨st4, gr4⟩ := alloc_f st3 hn (.lst (cutV xs i j))
    exact hq _ S3 hf3 _ _ _ st4 (g13.trans st3 gr4) (.lst upd_same ((r.cut i j).sub gr4.sub))
  · exact hf3.elim
/-! ### join, index -/
def dAsS : D → T Str
  | .str i => T.pure i
  | _ => T.fail
theorem dAsS_inv {d : D} {S : Sto} {Qd : Str → Sto → Prop} {Ed : Xn → Sto → Prop} (h : dAsS d S Qd Ed) : ∃ b, d = .str b ∧ Qd b S := by
  cases d with
  | str b => exact ⟨b, rfl, h⟩
  | _ => exact h.elim
def dJoin (a : Str) (d : D) : T D := dOpt (strsIn d) fun ys => T.bind (dNeed ((ys.map (·.length)).sum + ys.length * a.length ≤ 16777216)) fun _ => T.pure (.str (Str.join a ys))
theorem x_join {apos : Pos} (ho : XB X E a ma) (he : XB X E b mb) (hs : starEach [b] X.env = [(false, eval b X.env)] := by rfl) (hbase : attributeBase a "join" X.env (eval a X.env) = eval a X.env := by rfl) (hline : (apos.endLine == pos.line) = true := by rfl) :
    XE X E (.Call (.Attribute a "join" apos) [b] [] pos) (fun g => T.bind (ma g) fun x => T.bind (dAsS x) fun s => T.bind (mb g) fun y => dJoin s y) := by
  refine pe_w (pe_join ho he hs hbase hline) fun σ H Q ⟨g, S, H0, Qd, Ed, rel, hm, hq, he⟩ => ?_
  refine ⟨g, S, H0, _, Ed, rel, hm, fun d S1 hf v H1 H01 st1 gr1 r1 => ?_, he⟩
  obtain ⟨s, rfl, hf⟩ := dAsS_inv hf
  cases r1.str
  refine ⟨⟨_, rfl⟩, g, S1, H01, _, Ed, rel.grow st1 gr1, hf, fun d2 S2 hf2 w H2 H02 st2 gr2 r2 => ?_, fun x S' ex => (he x S' ex).grow st1 gr1⟩
  obtain ⟨ys, hy, hf2⟩ := dOpt_inv hf2
  obtain ⟨hz, hf2⟩ := hf2
  obtain ⟨p, rfl, hp⟩ := r2.strsIn st2 hy
  refine ⟨s, p, ys, rfl, rfl, hp, hz, ?_⟩
  rw [TL.join_eq]
  exact hq _ S2 hf2 _ H2 H02 st2 (gr1.trans st1 gr2) (.str _)
end

/-! ### what is walked -/
def Wlk (K : PySem.W.Frag) (J : It) (H0' : Hp) (ds : List D) : Prop := ∀ H'' H0'' S'', StR K H'' H0'' S'' → Sub H0' H0'' → ∀ i : Nat,
  (∀ d, ds[i]? = some d → J.go i H'' ∧ ∀ x H3, J.yld i H'' x H3 → ∃ H03, StR K H3 H03 S'' ∧ Grow H'' H0'' S'' H3 H03 S'' ∧ Rp K H03 x d) ∧ (i = ds.length → J.stop i H'')
abbrev MI := Sg → T (List D)
def li (K : PySem.W.Frag) (E : XK) (m : MI) : TI := fun σ H R => ∃ g S H0 Qd Ed, Rel K σ H H0 S g ∧ m g S Qd Ed ∧
  (∀ ds S', Qd ds S' → ∀ J H' H0', StR K H' H0' S' → Grow H H0 S H' H0' S' → Wlk K J H0' ds → R J H') ∧ ∀ x S', Ed x S' → EX K E H H0 S x S'
abbrev XI (X : Cx) (E : XK) (tg e : Expr) (m : MI) : Prop := PI X tg e (li X.K E m)
theorem pi_w {X : Cx} {tg e : Expr} {t t' : TI} (h : PI X tg e t) (w : ∀ σ H Q, t' σ H Q → t σ H Q) : PI X tg e t' := ⟨fun pins s σ H Q I q => h.run pins s σ H Q I (w σ H Q q)⟩
def dItL : D → T (List D)
  | .lst xs => T.pure xs
  | _ => T.fail
def dItT : D → T (List D)
  | .tup xs => T.pure xs
  | _ => T.fail
def chars (x : Str) : List D := x.cps.toList.map fun c => D.str ⟨#[c]⟩
def dItS : D → T (List D)
  | .str x => T.pure (chars x)
  | _ => T.fail
theorem wlk_list {K : PySem.W.Frag} {H0 : Hp} {a : Addr} {xs : List V} {ds : List D} (h : H0 a = some (.lst xs)) (r : Rps K H0 xs ds) : Wlk K (Itl K a) H0 ds := by
  intro H2 H02 S2 st2 gr2 i
  have h2 := st2.sub _ _ (gr2 a _ h)
  refine ⟨fun d hd => ?_, fun hi => ⟨xs, .of h2, by rw [r.length, hi]; exact Nat.le_refl _⟩⟩
  obtain ⟨v, hv, rv⟩ := r.get hd
  refine ⟨⟨xs, v, .of h2, hv⟩, fun x H3 hy => ?_⟩
  obtain ⟨rfl, hy⟩ := hy
  obtain rfl := Option.some.inj ((hy xs (.of h2)).symm.trans hv)
  exact ⟨H02, st2, Grow.refl _ _ _, rv.sub gr2⟩
theorem wlk_tup {K : PySem.W.Frag} {H0 : Hp} {a : Addr} {xs : List V} {ds : List D} (h : SqT K H0 a xs) (r : Rps K H0 xs ds) : Wlk K (Itt K a) H0 ds := by
  intro H2 H02 S2 st2 gr2 i
  have h2 := sqT_sub st2.sub (sqT_sub gr2 h)
  refine ⟨fun d hd => ?_, fun hi => ⟨xs, h2, by rw [r.length, hi]; exact Nat.le_refl _⟩⟩
  obtain ⟨v, hv, rv⟩ := r.get hd
  refine ⟨⟨xs, v, h2, hv⟩, fun x H3 hy => ?_⟩
  obtain ⟨rfl, hy⟩ := hy
  obtain rfl := Option.some.inj ((hy xs h2).symm.trans hv)
  exact ⟨H02, st2, Grow.refl _ _ _, rv.sub gr2⟩
section
variable {X : Cx} {E : XK} {tg e a b : Expr} {pos p : Pos} {m ma mb : ME} {mar : MA}
theorem i_lst (h : XE X E e m) : XI X E tg e (fun g => T.bind (m g) dItL) := by
  refine pi_w (pi_list h) fun σ H Q ⟨g, S, H0, Qd, Ed, rel, hm, hq, he⟩ => ?_
  refine ⟨g, S, H0, _, Ed, rel, hm, fun d S1 hf v H1 H01 st1 gr1 r1 => ?_, he⟩
  unfold dItL at hf
  split at hf
  · cases r1 with
    | lst h1 r => exact ⟨_, rfl, ⟨_, .of (st1.sub _ _ h1)⟩, hq _ S1 hf _ H1 H01 st1 gr1 (wlk_list h1 r)⟩
  · exact hf.elim
theorem i_tup (h : XE X E e m) : XI X E tg e (fun g => T.bind (m g) dItT) := by
  refine pi_w (pi_tup h) fun σ H Q ⟨g, S, H0, Qd, Ed, rel, hm, hq, he⟩ => ?_
  refine ⟨g, S, H0, _, Ed, rel, hm, fun d S1 hf v H1 H01 st1 gr1 r1 => ?_, he⟩
  unfold dItT at hf
  split at hf
  · cases r1 with
    | tup h1 r => exact ⟨_, rfl, ⟨_, sqT_sub st1.sub h1⟩, hq _ S1 hf _ H1 H01 st1 gr1 (wlk_tup h1 r)⟩
  · exact hf.elim
theorem i_str (h : XB X E e m) : XI X E tg e (fun g => T.bind (m g) dItS) := by
  refine pi_w (pi_str h) fun σ H Q ⟨g, S, H0, Qd, Ed, rel, hm, hq, he⟩ => ?_
  refine ⟨g, S, H0, _, Ed, rel, hm, fun d S1 hf v H1 H01 st1 gr1 r1 => ?_, he⟩
  unfold dItS at hf
  split at hf
  · rename_i x
    cases r1.str
    refine ⟨x, rfl, hq _ S1 hf _ H1 H01 st1 gr1 ?_⟩
    intro H2 H02 S2 st2 gr2 i
    have hl : (chars x).length = x.cps.size := by unfold chars; rw [List.length_map, Array.length_toList]
    refine ⟨fun d hd => ?_, fun hi => ?_⟩
    · unfold chars at hd
      rw [List.getElem?_map, Array.getElem?_toList] at hd
      cases q : x.cps[i]? with
      | none => rw [q] at hd; cases hd
      | some c =>
        rw [q] at hd
        cases hd
        refine ⟨(Array.getElem?_eq_some_iff.mp q).1, fun y H3 hy => ?_⟩
        obtain ⟨rfl, c', hc, rfl⟩ := hy
        rw [q] at hc; cases hc
        exact ⟨H02, st2, Grow.refl _ _ _, .str _⟩
    · show x.cps.size ≤ i
      rw [hi, hl]; exact Nat.le_refl _
  · exact hf.elim
def dRng1 : List D → T (List D)
  | [.int j] => T.bind (dNeed (-(2 ^ 62) ≤ j ∧ j < 2 ^ 62)) fun _ => T.pure ((List.range j.toNat).map fun (k : Nat) => D.int (0 + (k : Int)))
  | _ => T.fail
def dRng2 : List D → T (List D)
  | [.int i, .int j] => T.bind (dNeed (-(2 ^ 62) ≤ i ∧ i < 2 ^ 62 ∧ -(2 ^ 62) ≤ j ∧ j < 2 ^ 62)) fun _ => T.pure ((List.range (j - i).toNat).map fun (k : Nat) => D.int (i + (k : Int)))
  | _ => T.fail
theorem wlk_rng {K : PySem.W.Frag} {H0 : Hp} (lo : Int) (n : Nat) : Wlk K (Itr lo n) H0 ((List.range n).map fun (k : Nat) => D.int (lo + (k : Int))) := by
  intro H2 H02 S2 st2 gr2 i
  refine ⟨fun d hd => ?_, fun hi => ?_⟩
  · rw [List.getElem?_map] at hd
    cases q : (List.range n)[i]? with
    | none => rw [q] at hd; cases hd
    | some c =>
      rw [q] at hd
      cases hd
      have q2 := List.getElem?_eq_some_iff.mp q
      obtain ⟨hi, e⟩ := q2
      rw [List.getElem_range] at e
      subst e
      rw [List.length_range] at hi
      refine ⟨hi, fun y H3 hy => ?_⟩
      obtain ⟨rfl, rfl⟩ := hy
      exact ⟨H02, st2, Grow.refl _ _ _, .int _⟩
  · show n ≤ i
    rw [hi, List.length_map, List.length_range]; exact Nat.le_refl _
theorem i_rng1 (hm : X.mg "range" = none) (ha : XAB X E [a] mar) (hg : Gl X "range" := by rfl) (hs : starEach [a] X.env = [(false, eval a X.env)] := by rfl) : XI X E tg (.Call (.Name "range" p) [a] [] pos) (fun g => T.bind (mar g) dRng1) := by
  refine pi_w (pi_range1 hg hm ha hs) fun σ H Q ⟨g, S, H0, Qd, Ed, rel, hm, hq, he⟩ => ?_
  refine ⟨g, S, H0, _, Ed, rel, hm, fun ds S1 hf vs H1 H01 st1 gr1 r1 => ?_, he⟩
  unfold dRng1 at hf
  split at hf
  · rename_i j
    obtain ⟨v, rfl, rv⟩ := r1.one
    cases rv.int
    obtain ⟨⟨h1, h2⟩, hf⟩ := hf
    exact ⟨j, rfl, h1, h2, hq _ S1 hf _ H1 H01 st1 gr1 (wlk_rng 0 _)⟩
  · exact hf.elim
theorem i_rng2 (hm : X.mg "range" = none) (ha : XAB X E [a, b] mar) (hg : Gl X "range" := by rfl) (hs : starEach [a, b] X.env = [(false, eval a X.env), (false, eval b X.env)] := by rfl) (hs2 : starEach [b] X.env = [(false, eval b X.env)] := by rfl) :
    XI X E tg (.Call (.Name "range" p) [a, b] [] pos) (fun g => T.bind (mar g) dRng2) := by
  refine pi_w (pi_range2 hg hm ha hs hs2) fun σ H Q ⟨g, S, H0, Qd, Ed, rel, hm, hq, he⟩ => ?_
  refine ⟨g, S, H0, _, Ed, rel, hm, fun ds S1 hf vs H1 H01 st1 gr1 r1 => ?_, he⟩
  unfold dRng2 at hf
  split at hf
  · rename_i i j
    obtain ⟨v, w, rfl, rv, rw'⟩ := r1.two
    cases rv.int; cases rw'.int
    obtain ⟨h1, hf⟩ := hf
    exact ⟨i, j, rfl, h1, hq _ S1 hf _ H1 H01 st1 gr1 (wlk_rng i _)⟩
  · exact hf.elim
/-- zip of two lists, of two tuples -/
def zipD (xs ys : List D) : List D := List.zipWith (fun a b => D.tup [a, b]) xs ys
def dZip : List D → T (List D)
  | [.lst xs, .lst ys] => T.pure (zipD xs ys)
  | [.tup xs, .tup ys] => T.pure (zipD xs ys)
  | _ => T.fail
theorem zipD_get {xs ys : List D} {i : Nat} {d : D} (h : (zipD xs ys)[i]? = some d) : ∃ a b, xs[i]? = some a ∧ ys[i]? = some b ∧ d = .tup [a, b] := by
  unfold zipD at h
  rw [List.getElem?_zipWith] at h
  cases q1 : xs[i]? with
  | none => rw [q1] at h; cases h
  | some a =>
    cases q2 : ys[i]? with
    | none => rw [q1, q2] at h; cases h
    | some b => rw [q1, q2] at h; cases h; exact ⟨a, b, rfl, rfl, rfl⟩
theorem zipD_len (xs ys : List D) : (zipD xs ys).length = min xs.length ys.length := by unfold zipD; rw [List.length_zipWith]
theorem pair_rep {K : PySem.W.Frag} {H H0 : Hp} {S : Sto} (st : StR K H H0 S) {q : Addr} (hq : H q = none) {x y : V} {a b : D} (ra : Rp K H0 x a) (rb : Rp K H0 y b) :
    ∃ H03, StR K (upd H q (.tup [x, y])) H03 S ∧ Grow H H0 S (upd H q (.tup [x, y])) H03 S ∧ Rp K H03 (.ref q) (.tup [a, b]) := by
  obtain ⟨st2, gr2⟩ := alloc_f st hq (.tup [x, y])
  exact ⟨_, st2, gr2, .tup (.of upd_same) (.cons (ra.sub gr2.sub) (.cons (rb.sub gr2.sub) .nil))⟩
theorem i_zip {elts : List Expr} {kk : Nat} {tpos : Pos} (hm : X.mg "zip" = none) (ha : XA X E [a, b] mar) (hg : Gl X "zip" := by rfl)
    (hs : starEach [a, b] X.env = (false, eval a X.env) :: starEach [b] X.env := by rfl) (hpl : (backTo pos (starEach [b] X.env)).any (·.1) = false := by rfl) : XI X E (.Tuple elts kk tpos) (.Call (.Name "zip" p) [a, b] [] pos) (fun g => T.bind (mar g) dZip) := by
  refine pi_w (RZ.pi_zipA hg hm ha hs hpl) fun σ H Q ⟨g, S, H0, Qd, Ed, rel, hm, hq, he⟩ => ?_
  refine ⟨g, S, H0, _, Ed, rel, hm, fun ds S1 hf vs H1 H01 st1 gr1 r1 => ?_, he⟩
  unfold dZip at hf
  split at hf
  · rename_i xs ys
    cases r1 with
    | cons r1 r2 =>
      cases r2 with
      | cons r2 r3 =>
        cases r3
        cases r1 with
        | @lst pa va _ ha ra =>
          cases r2 with
          | @lst pb vb _ hb rb =>
            refine ⟨pa, pb, va, vb, rfl, .inl ⟨.of (st1.sub _ _ ha), .of (st1.sub _ _ hb), hq _ S1 hf _ H1 H01 st1 gr1 ?_⟩⟩
            intro H2 H02 S2 st2 gr2 i
            have h1 := st2.sub _ _ (gr2 pa _ ha)
            have h2 := st2.sub _ _ (gr2 pb _ hb)
            refine ⟨fun d hd => ?_, fun hi => ⟨va, vb, .of h1, .of h2, ?_⟩⟩
            · obtain ⟨x, y, hx, hy, rfl⟩ := zipD_get hd
              obtain ⟨vx, hvx, rx⟩ := ra.get hx
              obtain ⟨vy, hvy, ry⟩ := rb.get hy
              refine ⟨⟨va, vb, vx, vy, .of h1, .of h2, hvx, hvy⟩, fun z H3 hz => ?_⟩
              obtain ⟨q, x', y', rfl, hqn, rfl, e1, e2⟩ := hz
              obtain rfl := Option.some.inj ((e1 va (.of h1)).symm.trans hvx)
              obtain rfl := Option.some.inj ((e2 vb (.of h2)).symm.trans hvy)
              exact pair_rep st2 hqn (rx.sub gr2) (ry.sub gr2)
            · rw [zipD_len] at hi
              rw [ra.length, rb.length]; omega
  · rename_i xs ys
    cases r1 with
    | cons r1 r2 =>
      cases r2 with
      | cons r2 r3 =>
        cases r3
        cases r1 with
        | @tup pa va _ ha ra =>
          cases r2 with
          | @tup pb vb _ hb rb =>
            refine ⟨pa, pb, va, vb, rfl, .inr ⟨sqT_sub st1.sub ha, sqT_sub st1.sub hb, hq _ S1 hf _ H1 H01 st1 gr1 ?_⟩⟩
            intro H2 H02 S2 st2 gr2 i
            have h1 := sqT_sub st2.sub (sqT_sub gr2 ha)
            have h2 := sqT_sub st2.sub (sqT_sub gr2 hb)
            refine ⟨fun d hd => ?_, fun hi => ⟨va, vb, h1, h2, ?_⟩⟩
            · obtain ⟨x, y, hx, hy, rfl⟩ := zipD_get hd
              obtain ⟨vx, hvx, rx⟩ := ra.get hx
              obtain ⟨vy, hvy, ry⟩ := rb.get hy
              refine ⟨⟨va, vb, vx, vy, h1, h2, hvx, hvy⟩, fun z H3 hz => ?_⟩
              obtain ⟨q, x', y', rfl, hqn, rfl, e1, e2⟩ := hz
              obtain rfl := Option.some.inj ((e1 va h1).symm.trans hvx)
              obtain rfl := Option.some.inj ((e2 vb h2).symm.trans hvy)
              exact pair_rep st2 hqn (rx.sub gr2) (ry.sub gr2)
            · rw [zipD_len] at hi
              rw [ra.length, rb.length]; omega
  · exact hf.elim
end

/-! ### targets -/
/-- what is owned was owned -/
def OwnIn (g : Sg) (σ : L2.St) (g' : Sg) (σ' : L2.St) : Prop := ∀ (j : Nat) s, g'[j]? = some s → owns s = true → g[j]? = some s ∧ σ'[j]? = σ[j]?
theorem OwnIn.refl (g : Sg) (σ : L2.St) : OwnIn g σ g σ := fun _ _ h _ => ⟨h, rfl⟩
theorem OwnIn.set {g0 : Sg} {σ0 : L2.St} {g : Sg} {σ : L2.St} (h : OwnIn g0 σ0 g σ) (i : Nat) (d : D) (o : Option V) : OwnIn g0 σ0 (g.set i (.va d)) (σ.set i o) := fun j s e ow => by
  by_cases hj : i = j
  · subst hj
    by_cases hi : i < g.length
    · rw [List.getElem?_set_self hi] at e; cases e; cases ow
    · rw [List.getElem?_eq_none (by rw [List.length_set]; omega)] at e; cases e
  · rw [List.getElem?_set_ne hj] at e ⊢
    exact h j s e ow
def TgS (K : PySem.W.Frag) (is : List Nat) (t : TG) (f : D → Sg → T Sg) : Prop := ∀ (v : V) (d : D) (σ : L2.St) (g : Sg) (H H0 : Hp) (S : Sto) (Qd : Sg → Sto → Prop) (Ed : Xn → Sto → Prop) (Q : L2.St → Hp → Prop), Rel K σ H H0 S g → Rp K H0 v d → f d g S Qd Ed →
  (∀ g', Qd g' S → ∀ σ' : L2.St, σ'.length = σ.length → (∀ j, j ∉ is → σ'[j]? = σ[j]?) → (∀ H' H0' S', Rel K σ H' H0' S' g → Sub H0 H0' → Rel K σ' H' H0' S' g') → OwnIn g σ g' σ' → Q σ' H) → t v σ H Q
def gN (i : Nat) (d : D) (g : Sg) : T Sg := T.pure (g.set i (.va d))
theorem tg_name {K : PySem.W.Frag} (i : Nat) : TgS K [i] (gName i) (gN i) := by
  intro v d σ g H H0 S Qd Ed Q rel rv hf hq
  refine hq _ hf (σ.set i (some v)) (by rw [List.length_set]) (fun j hj => ?_) (fun _ _ _ rel' sb => rel'.set (rv.sub sb) i) ((OwnIn.refl g σ).set i d (some v))
  exact List.getElem?_set_ne (fun e => hj (by rw [e]; exact List.mem_singleton.mpr rfl))
def gT2 (i j : Nat) (d : D) (g : Sg) : T Sg := match d with
  | .tup [a, b] => T.pure ((g.set i (.va a)).set j (.va b))
  | _ => T.fail
theorem tg_two {K : PySem.W.Frag} (i j : Nat) : TgS K [i, j] (gTup K 2 (gCons (gName i) (gCons (gName j) gNil))) (gT2 i j) := by
  intro v d σ g H H0 S Qd Ed Q rel rv hf hq
  unfold gT2 at hf
  split at hf
  · rename_i a b
    cases rv with
    | tup h1 r =>
      cases r with
      | cons ra r =>
        cases r with
        | cons rb r =>
          cases r
          refine ⟨_, _, rfl, sqT_sub rel.st.sub h1, rfl, _, _, rfl, _, _, rfl, rfl, hq _ hf _ (by rw [List.length_set, List.length_set]) (fun k hk => ?_) (fun _ _ _ rel' sb => (rel'.set (ra.sub sb) i).set (rb.sub sb) j) (((OwnIn.refl g σ).set i a _).set j b _)⟩
          rw [List.getElem?_set_ne, List.getElem?_set_ne]
          · exact fun e => hk (by rw [e]; exact List.mem_cons_self)
          · exact fun e => hk (by rw [e]; exact List.mem_cons_of_mem _ List.mem_cons_self)
  · exact hf.elim
def gT3 (i j k : Nat) (d : D) (g : Sg) : T Sg := match d with
  | .tup [a, b, c] => T.pure (((g.set i (.va a)).set j (.va b)).set k (.va c))
  | _ => T.fail
theorem tg_three {K : PySem.W.Frag} (i j k : Nat) : TgS K [i, j, k] (gTup K 3 (gCons (gName i) (gCons (gName j) (gCons (gName k) gNil)))) (gT3 i j k) := by
  intro v d σ g H H0 S Qd Ed Q rel rv hf hq
  unfold gT3 at hf
  split at hf
  · rename_i a b c
    cases rv with
    | tup h1 r =>
      cases r with
      | cons ra r =>
        cases r with
        | cons rb r =>
          cases r with
          | cons rc r =>
            cases r
            refine ⟨_, _, rfl, sqT_sub rel.st.sub h1, rfl, _, _, rfl, _, _, rfl, _, _, rfl, rfl, hq _ hf _ (by rw [List.length_set, List.length_set, List.length_set]) (fun l hl => ?_) (fun _ _ _ rel' sb => ((rel'.set (ra.sub sb) i).set (rb.sub sb) j).set (rc.sub sb) k) ((((OwnIn.refl g σ).set i a _).set j b _).set k c _)⟩
            rw [List.getElem?_set_ne, List.getElem?_set_ne, List.getElem?_set_ne]
            · exact fun e => hl (by rw [e]; exact List.mem_cons_self)
            · exact fun e => hl (by rw [e]; exact List.mem_cons_of_mem _ List.mem_cons_self)
            · exact fun e => hl (by rw [e]; exact List.mem_cons_of_mem _ (List.mem_cons_of_mem _ List.mem_cons_self))
  · exact hf.elim
end DL

set_option Elab.async false
set_option linter.all false
set_option maxRecDepth 100000
set_option maxHeartbeats 4000000
namespace DL
open PySem PySem.Spec PyProof.Rows L2 STx OrdS

/-! ### comprehensions -/
def noX {α : Type} (m : T α) : T α := fun S Q _ => m S Q (fun _ _ => False)
noncomputable def lcT (f : D → Sg → T Sg) (t : MT) (e : ME) (g : Sg) : List D → T (List D)
  | [] => T.pure []
  | d :: r => T.bind (noX (f d g)) fun g1 => T.bind (noX (t g1)) fun k => T.ite k (T.bind (noX (e g1)) fun x => T.bind (lcT f t e g r) fun xs => T.pure (x :: xs)) (lcT f t e g r)
noncomputable def dLc (ms : MI) (vs : List Nat) (f : D → Sg → T Sg) (t : MT) (e : ME) : ME := fun g => T.bind (ms g) fun ds => T.bind (dNeed (ds.length ≤ sizeLine)) fun _ => T.bind (lcT f t e (wipeG g vs) ds) fun xs => T.pure (.lst xs)
def tY : MT := fun _ => T.pure true
/-- a cell that neither stays nor is of the store is written -/
theorem upd_free {K : PySem.W.Frag} {H H0 : Hp} {S : Sto} (st : StR K H H0 S) {p : Addr} (n0 : H0 p = none) (nS : S p = none) (o : HO) (nc : NoCode H p) : StR K (upd H p o) H0 S := by
  refine ⟨fun a u e => ?_, st.nos, fun a m e => ?_⟩
  · rw [upd_ne (ne_of_none e n0)]; exact st.sub a u e
  · have ha : a ≠ p := fun z => by rw [z, nS] at e; cases e
    exact (st.sto a m e).keep (fun _ _ q => q) (upd_ne ha) (keepC_upd nc o)
theorem grow_free {H H0 : Hp} {S : Sto} {H' H0' : Hp} {S' : Sto} (g : Grow H H0 S H' H0' S') {p : Addr} (hp : H p = none) (o : HO) : Grow H H0 S (upd H' p o) H0' S' :=
  ⟨fun a u e n => by rw [upd_ne (ne_of_none e hp)]; exact g.keep a u e n, g.old, g.sub, g.more, g.new⟩
theorem Grow.fresh {K : PySem.W.Frag} {H H0 : Hp} {S : Sto} {H' H0' : Hp} {S' : Sto} (g : Grow H H0 S H' H0' S') (s' : StR K H' H0' S') {a : Addr} (h : H' a = none) : H a = none := by
  cases z : H a with
  | none => rfl
  | some o => exact absurd h (g.there s' (by rw [z]; exact fun z => nomatch z))
/-- the list that a comprehension makes, so far -/
structure Acc (K : PySem.W.Frag) (Dl : Addr) (H1 H01 : Hp) (S1 : Sto) (H H0 : Hp) (S : Sto) (acc : List D) : Prop where
  st : StR K H H0 S
  gr : Grow H1 H01 S1 H H0 S
  at_ : ∃ xs, H Dl = some (.lst xs) ∧ Rps K H0 xs acc
  n0 : H0 Dl = none
  nS : S Dl = none
theorem Acc.grow {K : PySem.W.Frag} {Dl : Addr} {H1 H01 : Hp} {S1 : Sto} {H H0 : Hp} {S : Sto} {acc : List D} (a : Acc K Dl H1 H01 S1 H H0 S acc) {H' H0' : Hp} {S' : Sto} (st : StR K H' H0' S') (g : Grow H H0 S H' H0' S') : Acc K Dl H1 H01 S1 H' H0' S' acc := by
  obtain ⟨xs, e, r⟩ := a.at_
  have nn : H Dl ≠ none := by rw [e]; exact fun z => nomatch z
  exact ⟨st, a.gr.trans a.st g, ⟨xs, g.keep Dl _ e a.nS, r.sub g.sub⟩, g.old Dl a.n0 nn, g.isN a.nS nn⟩
theorem Acc.put {K : PySem.W.Frag} {Dl : Addr} {H1 H01 : Hp} {S1 : Sto} {H H0 : Hp} {S : Sto} {acc : List D} (a : Acc K Dl H1 H01 S1 H H0 S acc) (hD : H1 Dl = none) {v : V} {d : D} (r : Rp K H0 v d) {xs : List V} (e : H Dl = some (.lst xs)) :
    Acc K Dl H1 H01 S1 (upd H Dl (.lst (xs ++ [v]))) H0 S (acc ++ [d]) := by
  obtain ⟨xs', e', r'⟩ := a.at_
  rw [e] at e'
  cases e'
  exact ⟨upd_free a.st a.n0 a.nS _ (noCode_lst e), grow_free a.gr hD _, ⟨_, upd_same, r'.append (.cons r .nil)⟩, a.n0, a.nS⟩
theorem lc_lf {K : PySem.W.Frag} {E : XK} {ms : MI} {vs is : List Nat} {t : TG} {f : D → Sg → T Sg} {mt : MT} {me : ME} {tt : TT} {te : TE} (hs : TgS K is t f) (hi : ∀ i ∈ is, i ∈ vs)
    (htt : ∀ σ H Q, lt K E0 mt σ H Q → tt σ H Q) (hte : ∀ σ H Q, lf K E0 (RF K) me σ H Q → te σ H Q)
    {σ : L2.St} {H : Hp} {Q : VK} (h : lf K E (RN K) (dLc ms vs f mt me) σ H Q) : tLc (li K E ms) t tt te vs σ H Q := by
  obtain ⟨g, S, H0, Qd, Ed, rel, hm, hq, he⟩ := h
  refine ⟨g, S, H0, _, Ed, rel, hm, fun ds S1 hf J H1 H01 st1 gr1 wk Dl hD => ?_, he⟩
  obtain ⟨hz, hf⟩ := hf
  obtain ⟨stA, grA, n0, nS⟩ := alloc_n st1 hD (.lst [])
  have nH : H Dl = none := gr1.fresh st1 hD
  refine ⟨fun i k H2 => k = ds.length - i ∧ i ≤ ds.length ∧ ∃ S2 H02 acc, Acc K Dl H1 H01 S1 H2 H02 S2 acc ∧ acc.length ≤ i ∧ lcT f mt me (wipeG g vs) (ds.drop i) S2 (fun xs S' => Qd (.lst (acc ++ xs)) S') Ed,
    ⟨ds.length, by simp, Nat.zero_le _, S1, H01, [], ⟨stA, grA, ⟨[], upd_same, .nil⟩, n0, nS⟩, Nat.le_refl _, hf⟩, ?_⟩
  rintro i k H2 ⟨rfl, hle, S2, H02, acc, A, hacc, hr⟩
  by_cases hlt : i < ds.length
  · have hd : ds[i]? = some ds[i] := List.getElem?_eq_getElem hlt
    rw [List.drop_eq_getElem_cons hlt] at hr
    obtain ⟨go, yld⟩ := (wk H2 H02 S2 A.st A.gr.sub i).1 _ hd
    refine .inr ⟨go, fun H3 => i + 1 ≤ ds.length ∧ ∃ S3 H03 acc', Acc K Dl H1 H01 S1 H3 H03 S3 acc' ∧ acc'.length ≤ i + 1 ∧ lcT f mt me (wipeG g vs) (ds.drop (i + 1)) S3 (fun xs S' => Qd (.lst (acc' ++ xs)) S') Ed,
      fun H3 q => ⟨ds.length - (i + 1), by omega, rfl, q⟩, fun x H3 hy => ?_⟩
    obtain ⟨H03, st3, gr3, rx⟩ := yld x H3 hy
    have A3 := A.grow st3 gr3
    have rel3 := ((rel.grow st1 gr1).grow A3.st A3.gr).wipe vs
    refine hs x ds[i] _ _ H3 H03 S2 _ (fun _ _ => False) _ rel3 rx hr fun g1 hg1 σ1 hl1 ha1 un1 _ => ?_
    have rel1 := un1 _ _ _ rel3 (fun _ _ q => q)
    refine ⟨by rw [wipe_same hi hl1 ha1, wipe_wipe], htt _ _ _ ⟨g1, S2, H03, _, fun _ _ => False, rel1, hg1, fun b S4 hb H4 H04 st4 gr4 => ?_, fun _ _ z => z.elim⟩⟩
    have A4 := A3.grow st4 gr4
    cases b with
    | false =>
      have hb := T.iteF hb
      exact ⟨hlt, S4, H04, acc, A4, Nat.le_succ_of_le hacc, hb⟩
    | true =>
      have hb := T.iteT hb
      refine hte _ _ _ ⟨g1, S4, H04, _, fun _ _ => False, rel1.grow st4 gr4, hb, fun y S5 hy5 v H5 H05 st5 gr5 rv => ?_, fun _ _ z => z.elim⟩
      have A5 := A4.grow st5 gr5
      obtain ⟨xs, ex, rxs⟩ := A5.at_
      refine ⟨xs, ex, by rw [rxs.length]; omega, hlt, S5, H05, acc ++ [y], A5.put hD rv ex, by simp; omega, ?_⟩
      have e : (fun zs S' => Qd (.lst ((acc ++ [y]) ++ zs)) S') = fun zs S' => Qd (.lst (acc ++ (y :: zs))) S' := by
        funext zs S'
        rw [List.append_assoc]; rfl
      rw [e]
      exact hy5
  · obtain rfl : i = ds.length := by omega
    refine .inl ⟨(wk H2 H02 S2 A.st A.gr.sub _).2 rfl, ?_⟩
    rw [List.drop_length] at hr
    obtain ⟨xs, ex, rxs⟩ := A.at_
    have hr : Qd (.lst (acc ++ [])) S2 := hr
    rw [List.append_nil] at hr
    exact hq _ S2 hr _ H2 H02 A.st (gr1.trans st1 A.gr) (.inl ⟨Dl, xs, acc, rfl, rfl, nH, ex, A.n0, A.nS, rxs⟩)
section
variable {X : Cx} {E : XK}
theorem x_lc {elt tg iter : Expr} {ifs : List Expr} {scope : Scope} (own : List (Str × Nat)) {pos : Pos} {ms : MI} {is : List Nat} {t : TG} {f : D → Sg → T Sg} {mt : MT} {me : ME} (hc : X.calm = true) (hN : X.N.Nodup) (hi : XI X E tg iter ms) (ok : blkC X.N X.env.scope scope own = true)
    (hs : TgS X.K is t f) (his : ∀ i ∈ is, i ∈ own.map (·.2))
    (hg : ∀ (s : Shared) (H : Hp) (C : Addr) (cl : List (Str × Addr)) (fp : List Addr), PG (X.blk s H scope (compEnvC scope cl C X.env) fp) tg t) (ht : ∀ (s : Shared) (H : Hp) (C : Addr) (cl : List (Str × Addr)) (fp : List Addr), PTs (X.blk s H scope (compEnvC scope cl C X.env) fp) ifs (lt X.K E0 mt))
    (he : ∀ (s : Shared) (H : Hp) (C : Addr) (cl : List (Str × Addr)) (fp : List Addr), PE (X.blk s H scope (compEnvC scope cl C X.env) fp) elt (lf X.K E0 (RF X.K) me)) (hf : ∀ x, foldedSetIterable iter X.env x = pure x := by intro _; rfl) :
    XN X E (.ListComp elt [⟨tg, iter, ifs, 0⟩] scope pos) (dLc ms (own.map (·.2)) f mt me) :=
  pe_w (pe_lc hc hN hi (blkOk_by ok) hg ht he hf) fun _ _ _ h => lc_lf hs his (fun _ _ _ q => q) (fun _ _ _ q => q) h
theorem ts_nil : PTs X [] (lt X.K E tY) := ⟨fun pins s σ H Q I ⟨g, S, H0, Qd, Ed, rel, hm, hq, he⟩ => pts_nil.run pins s σ H Q I (hq true S hm H H0 rel.st (Grow.refl _ _ _))⟩
theorem ts_one {c : Expr} {m : MT} (h : XT X E c m) : PTs X [c] (lt X.K E m) := pts_one h
end

/-! ### two sources -/
noncomputable def lc2T (f : D → Sg → T Sg) (t : MT) (ms1 : MI) (vs1 : List Nat) (f1 : D → Sg → T Sg) (t1 : MT) (e : ME) (g : Sg) : List D → T (List D)
  | [] => T.pure []
  | d :: r => T.bind (noX (f d g)) fun g1 => T.bind (noX (t g1)) fun k => T.ite k (T.bind (noX (ms1 g1)) fun ds1 => T.bind (dNeed (ds1.length ≤ 1000)) fun _ => T.bind (lcT f1 t1 e (wipeG g1 vs1) ds1) fun ys =>
      T.bind (lc2T f t ms1 vs1 f1 t1 e g r) fun xs => T.pure (ys ++ xs)) (lc2T f t ms1 vs1 f1 t1 e g r)
noncomputable def dLc2 (ms : MI) (vs : List Nat) (f : D → Sg → T Sg) (t : MT) (ms1 : MI) (vs1 : List Nat) (f1 : D → Sg → T Sg) (t1 : MT) (e : ME) : ME := fun g =>
  T.bind (ms g) fun ds => T.bind (dNeed (ds.length ≤ 1000)) fun _ => T.bind (lc2T f t ms1 vs1 f1 t1 e (wipeG g vs) ds) fun xs => T.pure (.lst xs)
theorem big_line : 1000000 < sizeLine := by rw [sizeLine_eq]; decide
theorem lc2_lf {K : PySem.W.Frag} {E : XK} {ms ms1 : MI} {vs is vs1 is1 : List Nat} {t t1 : TG} {f f1 : D → Sg → T Sg} {mt mt1 : MT} {me : ME} {wi1 : TI} {tt tt1 : TT} {te : TE} (hs : TgS K is t f) (hi : ∀ i ∈ is, i ∈ vs) (hs1 : TgS K is1 t1 f1) (hi1 : ∀ i ∈ is1, i ∈ vs1)
    (htt : ∀ σ H Q, lt K E0 mt σ H Q → tt σ H Q) (hwi : ∀ σ H Q, li K E0 ms1 σ H Q → wi1 σ H Q) (htt1 : ∀ σ H Q, lt K E0 mt1 σ H Q → tt1 σ H Q) (hte : ∀ σ H Q, lf K E0 (RF K) me σ H Q → te σ H Q)
    {σ : L2.St} {H : Hp} {Q : VK} (h : lf K E (RN K) (dLc2 ms vs f mt ms1 vs1 f1 mt1 me) σ H Q) : tLc2 (li K E ms) t tt wi1 t1 tt1 te vs vs1 σ H Q := by
  obtain ⟨g, S, H0, Qd, Ed, rel, hm, hq, he⟩ := h
  refine ⟨g, S, H0, _, Ed, rel, hm, fun ds S1 hf J H1 H01 st1 gr1 wk Dl hD => ?_, he⟩
  obtain ⟨hz, hf⟩ := hf
  obtain ⟨stA, grA, n0, nS⟩ := alloc_n st1 hD (.lst [])
  have nH : H Dl = none := gr1.fresh st1 hD
  have big := big_line
  refine ⟨fun i k H2 => k = ds.length - i ∧ i ≤ ds.length ∧ ∃ S2 H02 acc, Acc K Dl H1 H01 S1 H2 H02 S2 acc ∧ acc.length ≤ i * 1000 ∧ lc2T f mt ms1 vs1 f1 mt1 me (wipeG g vs) (ds.drop i) S2 (fun xs S' => Qd (.lst (acc ++ xs)) S') Ed,
    ⟨ds.length, by simp, Nat.zero_le _, S1, H01, [], ⟨stA, grA, ⟨[], upd_same, .nil⟩, n0, nS⟩, Nat.zero_le _, hf⟩, ?_⟩
  rintro i k H2 ⟨rfl, hle, S2, H02, acc, A, hacc, hr⟩
  by_cases hlt : i < ds.length
  · have hd : ds[i]? = some ds[i] := List.getElem?_eq_getElem hlt
    rw [List.drop_eq_getElem_cons hlt] at hr
    obtain ⟨go, yld⟩ := (wk H2 H02 S2 A.st A.gr.sub i).1 _ hd
    refine .inr ⟨go, fun H3 => i + 1 ≤ ds.length ∧ ∃ S3 H03 acc', Acc K Dl H1 H01 S1 H3 H03 S3 acc' ∧ acc'.length ≤ (i + 1) * 1000 ∧ lc2T f mt ms1 vs1 f1 mt1 me (wipeG g vs) (ds.drop (i + 1)) S3 (fun xs S' => Qd (.lst (acc' ++ xs)) S') Ed,
      fun H3 q => ⟨ds.length - (i + 1), by omega, rfl, q⟩, fun x H3 hy => ?_⟩
    obtain ⟨H03, st3, gr3, rx⟩ := yld x H3 hy
    have A3 := A.grow st3 gr3
    have rel3 := ((rel.grow st1 gr1).grow A3.st A3.gr).wipe vs
    refine hs x ds[i] _ _ H3 H03 S2 _ (fun _ _ => False) _ rel3 rx hr fun g1 hg1 σ1 hl1 ha1 un1 _ => ?_
    have rel1 := un1 _ _ _ rel3 (fun _ _ q => q)
    refine ⟨by rw [wipe_same hi hl1 ha1, wipe_wipe], htt _ _ _ ⟨g1, S2, H03, _, fun _ _ => False, rel1, hg1, fun b S4 hb H4 H04 st4 gr4 => ?_, fun _ _ z => z.elim⟩⟩
    have A4 := A3.grow st4 gr4
    cases b with
    | false =>
      have hb := T.iteF hb
      refine ⟨hlt, S4, H04, acc, A4, by omega, hb⟩
    | true =>
      have hb := T.iteT hb
      refine hwi _ _ _ ⟨g1, S4, H04, _, fun _ _ => False, rel1.grow st4 gr4, hb, fun ds1 S5 hf1 J1 H5 H05 st5 gr5 wk1 => ?_, fun _ _ z => z.elim⟩
      obtain ⟨hz1, hf1⟩ := hf1
      have A5 := A4.grow st5 gr5
      have rel1' : ∀ {H6 H06 S6 acc6}, Acc K Dl H1 H01 S1 H6 H06 S6 acc6 → Sub H03 H06 → Rel K σ1 H6 H06 S6 g1 := fun {H6 H06 S6 acc6} B sb => un1 _ _ _ (((rel.grow st1 gr1).grow B.st B.gr).wipe vs) sb
      have s35 : Sub H03 H05 := fun a o q => gr5.sub a o (gr4.sub a o q)
      refine ⟨fun j k H6 => k = ds1.length - j ∧ j ≤ ds1.length ∧ ∃ S6 H06 acc1, Acc K Dl H1 H01 S1 H6 H06 S6 acc1 ∧ Sub H05 H06 ∧ acc1.length ≤ i * 1000 + j ∧
          lcT f1 mt1 me (wipeG g1 vs1) (ds1.drop j) S6 (fun ys S' => lc2T f mt ms1 vs1 f1 mt1 me (wipeG g vs) (ds.drop (i + 1)) S' (fun xs S'' => Qd (.lst (acc1 ++ (ys ++ xs))) S'') Ed) Ed,
        ⟨ds1.length, by simp, Nat.zero_le _, S5, H05, acc, A5, fun _ _ q => q, by omega, hf1⟩, ?_⟩
      rintro j k H6 ⟨rfl, hle1, S6, H06, acc1, A6, s56, hacc1, hr1⟩
      by_cases hlt1 : j < ds1.length
      · have hd1 : ds1[j]? = some ds1[j] := List.getElem?_eq_getElem hlt1
        rw [List.drop_eq_getElem_cons hlt1] at hr1
        obtain ⟨go1, yld1⟩ := (wk1 H6 H06 S6 A6.st s56 j).1 _ hd1
        refine .inr ⟨go1, fun H7 => j + 1 ≤ ds1.length ∧ ∃ S7 H07 acc2, Acc K Dl H1 H01 S1 H7 H07 S7 acc2 ∧ Sub H05 H07 ∧ acc2.length ≤ i * 1000 + (j + 1) ∧
            lcT f1 mt1 me (wipeG g1 vs1) (ds1.drop (j + 1)) S7 (fun ys S' => lc2T f mt ms1 vs1 f1 mt1 me (wipeG g vs) (ds.drop (i + 1)) S' (fun xs S'' => Qd (.lst (acc2 ++ (ys ++ xs))) S'') Ed) Ed,
          fun H7 q => ⟨ds1.length - (j + 1), by omega, rfl, q⟩, fun x1 H7 hy1 => ?_⟩
        obtain ⟨H07, st7, gr7, rx1⟩ := yld1 x1 H7 hy1
        have A7 := A6.grow st7 gr7
        have s57 : Sub H05 H07 := fun a o q => gr7.sub a o (s56 a o q)
        have rel7 := rel1' A7 fun a o q => s57 a o (s35 a o q)
        refine hs1 x1 ds1[j] _ _ H7 H07 S6 _ (fun _ _ => False) _ (rel7.wipe vs1) rx1 hr1 fun g2 hg2 σ2 hl2 ha2 un2 _ => ?_
        have rel2 := un2 _ _ _ (rel7.wipe vs1) fun _ _ q => q
        refine ⟨by rw [wipe_same hi1 hl2 ha2, wipe_wipe], htt1 _ _ _ ⟨g2, S6, H07, _, fun _ _ => False, rel2, hg2, fun b S8 hb H8 H08 st8 gr8 => ?_, fun _ _ z => z.elim⟩⟩
        have A8 := A7.grow st8 gr8
        have s58 : Sub H05 H08 := fun a o q => gr8.sub a o (s57 a o q)
        cases b with
        | false =>
          have hb := T.iteF hb
          exact ⟨hlt1, S8, H08, acc1, A8, s58, by omega, hb⟩
        | true =>
          have hb := T.iteT hb
          refine hte _ _ _ ⟨g2, S8, H08, _, fun _ _ => False, rel2.grow st8 gr8, hb, fun y S9 hy9 v H9 H09 st9 gr9 rv => ?_, fun _ _ z => z.elim⟩
          have A9 := A8.grow st9 gr9
          obtain ⟨xs, ex, rxs⟩ := A9.at_
          refine ⟨xs, ex, ?_, hlt1, S9, H09, acc1 ++ [y], A9.put hD rv ex, fun a o q => gr9.sub a o (s58 a o q), by simp; omega, ?_⟩
          · have h1 : i * 1000 ≤ 999 * 1000 := Nat.mul_le_mul_right _ (by omega)
            rw [rxs.length]; omega
          · have e : (fun ys S' => lc2T f mt ms1 vs1 f1 mt1 me (wipeG g vs) (ds.drop (i + 1)) S' (fun xs S'' => Qd (.lst ((acc1 ++ [y]) ++ (ys ++ xs))) S'') Ed) =
                fun ys S' => lc2T f mt ms1 vs1 f1 mt1 me (wipeG g vs) (ds.drop (i + 1)) S' (fun xs S'' => Qd (.lst (acc1 ++ ((y :: ys) ++ xs))) S'') Ed := by
              funext ys S'
              congr 1
              funext xs S''
              rw [List.append_assoc]; rfl
            rw [e]
            exact hy9
      · obtain rfl : j = ds1.length := by omega
        refine .inl ⟨(wk1 H6 H06 S6 A6.st s56 _).2 rfl, hlt, S6, H06, acc1, A6, by omega, ?_⟩
        rw [List.drop_length] at hr1
        exact hr1
  · obtain rfl : i = ds.length := by omega
    refine .inl ⟨(wk H2 H02 S2 A.st A.gr.sub _).2 rfl, ?_⟩
    rw [List.drop_length] at hr
    obtain ⟨xs, ex, rxs⟩ := A.at_
    have hr : Qd (.lst (acc ++ [])) S2 := hr
    rw [List.append_nil] at hr
    exact hq _ S2 hr _ H2 H02 A.st (gr1.trans st1 A.gr) (.inl ⟨Dl, xs, acc, rfl, rfl, nH, ex, A.n0, A.nS, rxs⟩)
section
variable {X : Cx} {E : XK}
theorem x_lc2 {elt tg iter tg1 iter1 : Expr} {ifs ifs1 : List Expr} {scope : Scope} (own : List (Str × Nat)) {vs1 : List Nat} {pos : Pos} {ms ms1 : MI} {is is1 : List Nat} {t t1 : TG} {f f1 : D → Sg → T Sg} {mt mt1 : MT} {me : ME} (hc : X.calm = true) (hN : X.N.Nodup) (hi : XI X E tg iter ms) (ok : blkC X.N X.env.scope scope own = true)
    (hs : TgS X.K is t f) (his : ∀ i ∈ is, i ∈ own.map (·.2)) (hv : ∀ i ∈ vs1, i ∈ own.map (·.2)) (hs1 : TgS X.K is1 t1 f1) (his1 : ∀ i ∈ is1, i ∈ vs1)
    (hg : ∀ (s : Shared) (H : Hp) (C : Addr) (cl : List (Str × Addr)) (fp : List Addr), PG (X.blk s H scope (compEnvC scope cl C X.env) fp) tg t) (ht : ∀ (s : Shared) (H : Hp) (C : Addr) (cl : List (Str × Addr)) (fp : List Addr), PTs (X.blk s H scope (compEnvC scope cl C X.env) fp) ifs (lt X.K E0 mt))
    (hi1 : ∀ (s : Shared) (H : Hp) (C : Addr) (cl : List (Str × Addr)) (fp : List Addr), PI (X.blk s H scope (compEnvC scope cl C X.env) fp) tg1 iter1 (li X.K E0 ms1))
    (hg1 : ∀ (s : Shared) (H : Hp) (C : Addr) (cl : List (Str × Addr)) (fp : List Addr), PG (X.blk s H scope (compEnvC scope cl C X.env) fp) tg1 t1) (ht1 : ∀ (s : Shared) (H : Hp) (C : Addr) (cl : List (Str × Addr)) (fp : List Addr), PTs (X.blk s H scope (compEnvC scope cl C X.env) fp) ifs1 (lt X.K E0 mt1))
    (he : ∀ (s : Shared) (H : Hp) (C : Addr) (cl : List (Str × Addr)) (fp : List Addr), PE (X.blk s H scope (compEnvC scope cl C X.env) fp) elt (lf X.K E0 (RF X.K) me)) (hf : ∀ x, foldedSetIterable iter X.env x = pure x := by intro _; rfl) (hf1 : ∀ env x, foldedSetIterable iter1 env x = pure x := by intro _ _; rfl) :
    XN X E (.ListComp elt [⟨tg, iter, ifs, 0⟩, ⟨tg1, iter1, ifs1, 0⟩] scope pos) (dLc2 ms (own.map (·.2)) f mt ms1 vs1 f1 mt1 me) :=
  pe_w (pe_lc2 hc hN hi (blkOk_by ok) hv hg ht hi1 hg1 ht1 he hf hf1) fun _ _ _ h => lc2_lf hs his hs1 his1 (fun _ _ _ q => q) (fun _ _ _ q => q) (fun _ _ _ q => q) (fun _ _ _ q => q) h
end
end DL

set_option Elab.async false
set_option linter.all false
set_option maxRecDepth 100000
set_option maxHeartbeats 4000000
namespace DL
open PySem PySem.Spec PyProof.Rows L2 STx OrdS

/-! ### statements -/
/-- where a def began -/
structure Bs where
  H : Hp
  H0 : Hp
  S : Sto
inductive Out where
  | nx (g : Sg) | rt (d : D) | bk (g : Sg) | ct (g : Sg)
structure RelB (K : PySem.W.Frag) (b : Bs) (σ : L2.St) (H H0 : Hp) (S : Sto) (g : Sg) : Prop where
  rel : Rel K σ H H0 S g
  gb : Grow b.H b.H0 b.S H H0 S
  ob : ∀ (i : Nat) s p, g[i]? = some s → owns s = true → σ[i]? = some (some (.ref p)) → b.H p = none
theorem RelB.grow {K : PySem.W.Frag} {b : Bs} {σ : L2.St} {H H0 : Hp} {S : Sto} {g : Sg} (r : RelB K b σ H H0 S g) {H' H0' : Hp} {S' : Sto} (st : StR K H' H0' S') (w : Grow H H0 S H' H0' S') : RelB K b σ H' H0' S' g :=
  ⟨r.rel.grow st w, r.gb.trans r.rel.st w, r.ob⟩
theorem RelB.owned {K : PySem.W.Frag} {b : Bs} {σ σ' : L2.St} {H H0 : Hp} {S : Sto} {g g' : Sg} (r : RelB K b σ H H0 S g) (rel : Rel K σ' H H0 S g') (o : OwnIn g σ g' σ') : RelB K b σ' H H0 S g' :=
  ⟨rel, r.gb, fun i s p h1 h2 h3 => by
    obtain ⟨e1, e2⟩ := o i s h1 h2
    exact r.ob i s p e1 h2 (e2 ▸ h3)⟩
theorem RelB.set {K : PySem.W.Frag} {b : Bs} {σ : L2.St} {H H0 : Hp} {S : Sto} {g : Sg} (r : RelB K b σ H H0 S g) {v : V} {d : D} (h : Rp K H0 v d) (i : Nat) : RelB K b (σ.set i (some v)) H H0 S (g.set i (.va d)) :=
  r.owned (r.rel.set h i) ((OwnIn.refl g σ).set i d (some v))
/-- a new list, a new dict to a slot of its own -/
theorem RelB.own {K : PySem.W.Frag} {b : Bs} {σ : L2.St} {H H0 : Hp} {S : Sto} {g : Sg} (r : RelB K b σ H H0 S g) {H' H0' : Hp} {S' : Sto} (st : StR K H' H0' S') (w : Grow H H0 S H' H0' S') {p : Addr} {sl : Sl} (hn : H p = none) (i : Nat)
    (hs : RpS K H' H0' S' (some (some (.ref p))) sl) : RelB K b (σ.set i (some (.ref p))) H' H0' S' (g.set i sl) := by
  have bn : b.H p = none := r.gb.fresh r.rel.st hn
  have r1 := r.grow st w
  -- what is owned elsewhere stood in H
  have apart : ∀ (j : Nat) s, j ≠ i → g[j]? = some s → owns s = true → σ[j]? ≠ some (some (.ref p)) := fun j s _ h1 h2 h3 => by
    have q := r.rel.sl j s h1
    cases s with
    | ow ds => obtain ⟨p', xs, e, e1, _⟩ := q; rw [h3] at e; cases e; rw [hn] at e1; cases e1
    | od ks ds => obtain ⟨p', xs, e, e1, _⟩ := q; rw [h3] at e; cases e; rw [hn] at e1; cases e1
    | _ => cases h2
  refine ⟨⟨st, by rw [List.length_set, List.length_set, r.rel.len], fun j s e => ?_, fun j k sj sk q hjk hj hk oj ok h1 h2 => ?_⟩, r1.gb, fun j s q e1 e2 e3 => ?_⟩
  · by_cases hj : i = j
    · subst hj
      by_cases hi : i < g.length
      · rw [List.getElem?_set_self hi] at e
        cases e
        rw [List.getElem?_set_self (by rw [r.rel.len]; exact hi)]
        exact hs
      · rw [List.getElem?_eq_none (by rw [List.length_set]; omega)] at e; cases e
    · rw [List.getElem?_set_ne hj] at e ⊢
      exact r1.rel.sl j s e
  · by_cases hij : i = j
    · subst hij
      have hik : i ≠ k := hjk
      rw [List.getElem?_set_ne hik] at hk h2
      by_cases hi : i < σ.length
      · rw [List.getElem?_set_self hi] at h1
        cases h1
        exact apart k sk (Ne.symm hik) hk ok h2
      · rw [List.getElem?_eq_none (by rw [List.length_set]; omega)] at h1; cases h1
    · rw [List.getElem?_set_ne hij] at hj h1
      by_cases hik : i = k
      · subst hik
        by_cases hi : i < σ.length
        · rw [List.getElem?_set_self hi] at h2
          cases h2
          exact apart j sj (Ne.symm hij) hj oj h1
        · rw [List.getElem?_eq_none (by rw [List.length_set]; omega)] at h2; cases h2
      · rw [List.getElem?_set_ne hik] at hk h2
        exact r.rel.di j k sj sk q hjk hj hk oj ok h1 h2
  · by_cases hij : i = j
    · subst hij
      by_cases hi : i < σ.length
      · rw [List.getElem?_set_self hi] at e3
        cases e3
        exact bn
      · rw [List.getElem?_eq_none (by rw [List.length_set]; omega)] at e3; cases e3
    · rw [List.getElem?_set_ne hij] at e1 e3
      exact r.ob j s q e1 e2 e3
/-- the cell of an owned slot is written -/
theorem RelB.write {K : PySem.W.Frag} {b : Bs} {σ : L2.St} {H H0 : Hp} {S : Sto} {g : Sg} (r : RelB K b σ H H0 S g) {i : Nat} {p : Addr} {s0 sl : Sl} (hi : g[i]? = some s0) (ho : owns s0 = true) (hp : σ[i]? = some (some (.ref p))) {o : HO}
    (hs : RpS K (upd H p o) H0 S (some (some (.ref p))) sl) (hsl : owns sl = true) : RelB K b σ (upd H p o) H0 S (g.set i sl) := by
  have key : H0 p = none ∧ S p = none ∧ NoCode H p := by
    have q := r.rel.sl i s0 hi
    cases s0 with
    | ow ds => obtain ⟨p', xs, e, e0, e1, e2, _⟩ := q; rw [hp] at e; cases e; exact ⟨e1, e2, noCode_lst e0⟩
    | od ks ds => obtain ⟨p', xs, e, e0, e1, e2, _⟩ := q; rw [hp] at e; cases e; exact ⟨e1, e2, noCode_dK e0⟩
    | _ => cases ho
  have bn := r.ob i s0 p hi ho hp
  have hig : i < g.length := (List.getElem?_eq_some_iff.mp hi).1
  have st' := upd_free r.rel.st key.1 key.2.1 o key.2.2
  refine ⟨⟨st', by rw [List.length_set, r.rel.len], fun j s e => ?_, fun j k sj sk q hjk hj hk oj ok h1 h2 => ?_⟩, ⟨fun a u e n => ?_, r.gb.old, r.gb.sub, r.gb.more, r.gb.new⟩, fun j s q e1 e2 e3 => ?_⟩
  · by_cases hj : i = j
    · subst hj
      rw [List.getElem?_set_self hig] at e
      cases e
      rw [hp]; exact hs
    · rw [List.getElem?_set_ne hj] at e
      have q := r.rel.sl j s e
      cases s with
      | un => exact True.intro
      | va d => exact q
      | ow ds =>
        obtain ⟨p', xs, e0, e1, e2⟩ := q
        have ne : p' ≠ p := fun z => r.rel.di j i _ _ p (Ne.symm hj) e hi rfl ho (by rw [e0, z]) hp
        exact ⟨p', xs, e0, by rw [upd_ne ne]; exact e1, e2⟩
      | od ks ds =>
        obtain ⟨p', xs, e0, e1, e2⟩ := q
        have ne : p' ≠ p := fun z => r.rel.di j i _ _ p (Ne.symm hj) e hi rfl ho (by rw [e0, z]) hp
        exact ⟨p', xs, e0, by rw [upd_ne ne]; exact e1, e2⟩
  · have was : ∀ (j : Nat) s, (g.set i sl)[j]? = some s → owns s = true → ∃ s', g[j]? = some s' ∧ owns s' = true := fun j s e ow => by
      by_cases hj : i = j
      · subst hj; exact ⟨s0, hi, ho⟩
      · rw [List.getElem?_set_ne hj] at e; exact ⟨s, e, ow⟩
    obtain ⟨a, a1, a2⟩ := was j sj hj oj
    obtain ⟨c, c1, c2⟩ := was k sk hk ok
    exact r.rel.di j k a c q hjk a1 c1 a2 c2 h1 h2
  · have ne : a ≠ p := ne_of_none e bn
    rw [upd_ne ne]
    exact r.gb.keep a u e n
  · by_cases hj : i = j
    · subst hj; exact r.ob i s0 q hi ho e3
    · rw [List.getElem?_set_ne hj] at e1; exact r.ob j s q e1 e2 e3
/-- what an owned slot holds stays from here on -/
def frzG (i : Nat) (g : Sg) : Sg := match g[i]? with
  | some (.ow xs) => g.set i (.va (.lst xs))
  | some (.od ks xs) => g.set i (.va (.dic ks xs))
  | _ => g
theorem RelB.frz1 {K : PySem.W.Frag} {b : Bs} {σ : L2.St} {H H0 : Hp} {S : Sto} {g : Sg} (r : RelB K b σ H H0 S g) {i : Nat} {s : Sl} {p : Addr} {o : HO} {d : D} (hi : g[i]? = some s) (ow : owns s = true) (hp : σ[i]? = some (some (.ref p))) (ho : H p = some o) (n0 : H0 p = none) (nS : S p = none)
    (rd : Rp K (upd H0 p o) (.ref p) d) : RelB K b σ H (upd H0 p o) S (g.set i (.va d)) := by
  obtain ⟨st, s0⟩ := freeze r.rel.st ho n0 nS
  have bn := r.ob i s p hi ow hp
  refine ⟨⟨st, by rw [List.length_set, r.rel.len], fun j sj e => ?_, fun j k sj sk q hjk hj hk oj ok h1 h2 => ?_⟩, ⟨r.gb.keep, fun a ha n => ?_, fun a u e => s0 a u (r.gb.sub a u e), r.gb.more, r.gb.new⟩, fun j sj q e1 e2 e3 => ?_⟩
  · by_cases hj : i = j
    · subst hj
      rw [List.getElem?_set_self (List.getElem?_eq_some_iff.mp hi).1] at e
      cases e
      exact ⟨_, hp, rd⟩
    · rw [List.getElem?_set_ne hj] at e
      have q := r.rel.sl j sj e
      cases sj with
      | un => exact True.intro
      | va d => obtain ⟨v, e1, e2⟩ := q; exact ⟨v, e1, e2.sub s0⟩
      | ow ds =>
        obtain ⟨p', xs, e0, e1, e2, e3, e4⟩ := q
        have ne : p' ≠ p := fun z => r.rel.di j i _ _ p (Ne.symm hj) e hi rfl ow (by rw [e0, z]) hp
        exact ⟨p', xs, e0, e1, by rw [upd_ne ne]; exact e2, e3, e4.sub s0⟩
      | od ks ds =>
        obtain ⟨p', xs, e0, e1, e2, e3, k, e4⟩ := q
        have ne : p' ≠ p := fun z => r.rel.di j i _ _ p (Ne.symm hj) e hi rfl ow (by rw [e0, z]) hp
        exact ⟨p', xs, e0, e1, by rw [upd_ne ne]; exact e2, e3, k, e4.sub s0⟩
  · have was : ∀ (j : Nat) s, (g.set i (.va d))[j]? = some s → owns s = true → g[j]? = some s := fun j s' e ow' => by
      by_cases hj : i = j
      · subst hj
        rw [List.getElem?_set_self (List.getElem?_eq_some_iff.mp hi).1] at e
        cases e; cases ow'
      · rw [List.getElem?_set_ne hj] at e; exact e
    exact r.rel.di j k sj sk q hjk (was j sj hj oj) (was k sk hk ok) oj ok h1 h2
  · have ne : a ≠ p := fun z => n (by rw [z]; exact bn)
    rw [upd_ne ne]; exact r.gb.old a ha n
  · by_cases hj : i = j
    · subst hj
      rw [List.getElem?_set_self (List.getElem?_eq_some_iff.mp hi).1] at e1
      cases e1; cases e2
    · rw [List.getElem?_set_ne hj] at e1; exact r.ob j sj q e1 e2 e3
theorem RelB.frz {K : PySem.W.Frag} {b : Bs} {σ : L2.St} {H H0 : Hp} {S : Sto} {g : Sg} (r : RelB K b σ H H0 S g) (i : Nat) : ∃ H0', RelB K b σ H H0' S (frzG i g) := by
  unfold frzG
  cases hg : g[i]? with
  | none => exact ⟨H0, r⟩
  | some s =>
    cases s with
    | un => exact ⟨H0, r⟩
    | va d => exact ⟨H0, r⟩
    | ow ds =>
      obtain ⟨p, xs, e0, e1, e2, e3, e4⟩ := r.rel.sl i _ hg
      obtain ⟨st, s0⟩ := freeze r.rel.st e1 e2 e3
      exact ⟨_, r.frz1 hg rfl e0 e1 e2 e3 (.lst upd_same (e4.sub s0))⟩
    | od ks ds =>
      obtain ⟨p, xs, e0, e1, e2, e3, k, e4⟩ := r.rel.sl i _ hg
      obtain ⟨st, s0⟩ := freeze r.rel.st e1 e2 e3
      exact ⟨_, r.frz1 hg rfl e0 e1 e2 e3 (.dic upd_same k (e4.sub s0))⟩

def Fin (K : PySem.W.Frag) (b : Bs) (Hs : Hp) (D : Ends) (o : Out) (S' : Sto) : Prop := match o with
  | .nx g' => ∀ σ' H' H0', RelB K b σ' H' H0' S' g' → Sub Hs H0' → D.nx σ' H'
  | .bk g' => ∀ σ' H' H0', RelB K b σ' H' H0' S' g' → Sub Hs H0' → D.bk σ' H'
  | .ct g' => ∀ σ' H' H0', RelB K b σ' H' H0' S' g' → Sub Hs H0' → D.ct σ' H'
  | .rt d => ∀ v H' H0', StR K H' H0' S' → Grow b.H b.H0 b.S H' H0' S' → Rp K H0' v d → D.rt v H'
theorem Fin.mono {K : PySem.W.Frag} {b : Bs} {Hs Ht : Hp} (sb : Sub Hs Ht) {D : Ends} {o : Out} {S' : Sto} (h : Fin K b Hs D o S') : Fin K b Ht D o S' := by
  cases o with
  | nx g => exact fun σ' H' H0' r q => h σ' H' H0' r fun a o z => q a o (sb a o z)
  | bk g => exact fun σ' H' H0' r q => h σ' H' H0' r fun a o z => q a o (sb a o z)
  | ct g => exact fun σ' H' H0' r q => h σ' H' H0' r fun a o z => q a o (sb a o z)
  | rt d => exact h
abbrev MS := Sg → T Out
def ls (K : PySem.W.Frag) (E : XK) (b : Bs) (m : MS) : TS := fun D σ H => ∃ g S H0 Qd Ed, RelB K b σ H H0 S g ∧ m g S Qd Ed ∧ (∀ o S', Qd o S' → Fin K b H0 D o S') ∧ ∀ x S', Ed x S' → EX K E b.H b.H0 b.S x S'
abbrev XS (X : Cx) (E : XK) (b : Bs) (st : Stmt) (m : MS) : Prop := PS X st (ls X.K E b m)
abbrev XSs (X : Cx) (E : XK) (b : Bs) (st : List Stmt) (m : MS) : Prop := PSs X st (ls X.K E b m)
theorem RelB.frzS {K : PySem.W.Frag} {b : Bs} {σ : L2.St} {H H0 : Hp} {S : Sto} {g : Sg} (r : RelB K b σ H H0 S g) (i : Nat) : ∃ H0', RelB K b σ H H0' S (frzG i g) ∧ Sub H0 H0' := by
  unfold frzG
  cases hg : g[i]? with
  | none => exact ⟨H0, r, fun _ _ q => q⟩
  | some s =>
    cases s with
    | un => exact ⟨H0, r, fun _ _ q => q⟩
    | va d => exact ⟨H0, r, fun _ _ q => q⟩
    | ow ds =>
      obtain ⟨p, xs, e0, e1, e2, e3, e4⟩ := r.rel.sl i _ hg
      obtain ⟨st, s0⟩ := freeze r.rel.st e1 e2 e3
      exact ⟨_, r.frz1 hg rfl e0 e1 e2 e3 (.lst upd_same (e4.sub s0)), s0⟩
    | od ks ds =>
      obtain ⟨p, xs, e0, e1, e2, e3, k, e4⟩ := r.rel.sl i _ hg
      obtain ⟨st, s0⟩ := freeze r.rel.st e1 e2 e3
      exact ⟨_, r.frz1 hg rfl e0 e1 e2 e3 (.dic upd_same k (e4.sub s0)), s0⟩
section
variable {X : Cx} {E : XK} {b : Bs} {st : Stmt} {rest sa sb : List Stmt} {m ma mb : MS} {e c : Expr} {me : ME} {mt : MT} {pos : Pos}
def thenO (o : Out) (k : Sg → T Out) : T Out := match o with
  | .nx g => k g
  | o => T.pure o
theorem sbr {H : Hp} : Sub H H := fun _ _ q => q
theorem ss_nil : XSs X E b [] (fun g => T.pure (.nx g)) := pss_w pss_nil fun D σ H ⟨g, S, H0, Qd, Ed, r, hm, hq, he⟩ => hq _ S hm σ H H0 r sbr
theorem ss_cons (h1 : XS X E b st ma) (h2 : XSs X E b rest mb) : XSs X E b (st :: rest) (fun g => T.bind (ma g) fun o => thenO o mb) := by
  refine pss_w (pss_cons h1 h2) fun D σ H ⟨g, S, H0, Qd, Ed, r, hm, hq, he⟩ => ?_
  refine ⟨g, S, H0, _, Ed, r, hm, fun o S1 hf => ?_, he⟩
  cases o with
  | nx g1 => exact fun σ1 H1 H01 r1 sb => ⟨g1, S1, H01, Qd, Ed, r1, hf, fun o S' q => (hq o S' q).mono sb, he⟩
  | rt d => exact hq _ S1 hf
  | bk g1 => exact hq _ S1 hf
  | ct g1 => exact hq _ S1 hf
theorem ss_one (h1 : XS X E b st ma) : XSs X E b [st] ma := pss_one h1
theorem ss_frz (i : Nat) (h : XSs X E b rest m) : XSs X E b rest (fun g => m (frzG i g)) := pss_w h fun D σ H ⟨g, S, H0, Qd, Ed, r, hm, hq, he⟩ => by
  obtain ⟨H0', r', sb⟩ := r.frzS i
  exact ⟨frzG i g, S, H0', Qd, Ed, r', hm, fun o S' q => (hq o S' q).mono sb, he⟩
theorem s_frz (i : Nat) (h : XS X E b st m) : XS X E b st (fun g => m (frzG i g)) := ps_w h fun D σ H ⟨g, S, H0, Qd, Ed, r, hm, hq, he⟩ => by
  obtain ⟨H0', r', sb⟩ := r.frzS i
  exact ⟨frzG i g, S, H0', Qd, Ed, r', hm, fun o S' q => (hq o S' q).mono sb, he⟩
theorem exb {K : PySem.W.Frag} {σ : L2.St} {H H0 : Hp} {S : Sto} {g : Sg} (r : RelB K b σ H H0 S g) {Ed : Xn → Sto → Prop} (he : ∀ x S', Ed x S' → EX K E b.H b.H0 b.S x S') : ∀ x S', Ed x S' → EX K E H H0 S x S' := fun x S' ex => (he x S' ex).grow r.rel.st r.gb
theorem s_ret (h : XE X E e me) : XS X E b (.Return (some e) pos) (fun g => T.bind (me g) fun d => T.pure (.rt d)) := by
  refine ps_w (ps_ret h) fun D σ H ⟨g, S, H0, Qd, Ed, r, hm, hq, he⟩ => ?_
  exact ⟨g, S, H0, _, Ed, r.rel, hm, fun d S1 hf v H1 H01 st1 gr1 r1 => hq _ S1 hf v H1 H01 st1 (r.gb.trans r.rel.st gr1) r1, exb r he⟩
theorem s_retN : XS X E b (.Return none pos) (fun g => T.pure (.rt .non)) := ps_w ps_retN fun D σ H ⟨g, S, H0, Qd, Ed, r, hm, hq, he⟩ => hq _ S hm _ H H0 r.rel.st r.gb .non
theorem s_pass : XS X E b (.Pass pos) (fun g => T.pure (.nx g)) := ps_w ps_pass fun D σ H ⟨g, S, H0, Qd, Ed, r, hm, hq, he⟩ => hq _ S hm σ H H0 r sbr
theorem s_break : XS X E b (.Break pos) (fun g => T.pure (.bk g)) := ps_w ps_break fun D σ H ⟨g, S, H0, Qd, Ed, r, hm, hq, he⟩ => hq _ S hm σ H H0 r sbr
theorem s_cont : XS X E b (.Continue pos) (fun g => T.pure (.ct g)) := ps_w ps_continue fun D σ H ⟨g, S, H0, Qd, Ed, r, hm, hq, he⟩ => hq _ S hm σ H H0 r sbr
theorem s_doc {x j pos'} : XS X E b (.Expr (.Constant (.str x) j pos) pos') (fun g => T.pure (.nx g)) := ps_w ps_doc fun D σ H ⟨g, S, H0, Qd, Ed, r, hm, hq, he⟩ => hq _ S hm σ H H0 r sbr
theorem s_if (hc : XT X E c mt) (ha : XSs X E b sa ma) (hb : XSs X E b sb mb) : XS X E b (.If c sa sb pos) (fun g => T.bind (mt g) fun k => T.ite k (ma g) (mb g)) := by
  refine ps_w (ps_if hc ha hb) fun D σ H ⟨g, S, H0, Qd, Ed, r, hm, hq, he⟩ => ?_
  refine ⟨g, S, H0, _, Ed, r.rel, hm, fun k S1 hf H1 H01 st1 gr1 => ?_, exb r he⟩
  cases k with
  | true =>
    have hf := T.iteT hf
    exact ⟨g, S1, H01, Qd, Ed, r.grow st1 gr1, hf, fun o S' q => (hq o S' q).mono gr1.sub, he⟩
  | false =>
    have hf := T.iteF hf
    exact ⟨g, S1, H01, Qd, Ed, r.grow st1 gr1, hf, fun o S' q => (hq o S' q).mono gr1.sub, he⟩
theorem s_drop (h : XE X E e me) (hs : swapsWith e none pos.line X.env = pure false := by rfl) : XS X E b (.Expr e pos) (fun g => T.bind (me g) fun _ => T.pure (.nx g)) := by
  refine ps_w (ps_expr h hs) fun D σ H ⟨g, S, H0, Qd, Ed, r, hm, hq, he⟩ => ?_
  exact ⟨g, S, H0, _, Ed, r.rel, hm, fun d S1 hf v H1 H01 st1 gr1 r1 => hq _ S1 hf σ H1 H01 (r.grow st1 gr1) gr1.sub, exb r he⟩
/-- name = e -/
def setV (me : ME) (i : Nat) : MS := fun g => T.bind (me g) fun d => T.pure (.nx (g.set i (.va d)))
def ownD (g : Sg) (i : Nat) : D → T Out
  | .lst xs => T.pure (.nx (g.set i (.ow xs)))
  | .dic ks xs => T.pure (.nx (g.set i (.od ks xs)))
  | _ => T.fail
def setO (me : ME) (i : Nat) : MS := fun g => T.bind (me g) fun d => ownD g i d
theorem asg_v {i : Nat} {te : TE} (hw : ∀ σ H Q, lf X.K E (RF X.K) me σ H Q → te σ H Q) : ∀ D σ H, ls X.K E b (setV me i) D σ H → tAsg te (gName i) D σ H := fun D σ H ⟨g, S, H0, Qd, Ed, r, hm, hq, he⟩ =>
  hw _ _ _ ⟨g, S, H0, _, Ed, r.rel, hm, fun d S1 hf v H1 H01 st1 gr1 r1 => hq _ S1 hf _ H1 H01 ((r.grow st1 gr1).set r1 i) gr1.sub, exb r he⟩
theorem asg_o {i : Nat} {te : TE} (hw : ∀ σ H Q, lf X.K E (RN X.K) me σ H Q → te σ H Q) : ∀ D σ H, ls X.K E b (setO me i) D σ H → tAsg te (gName i) D σ H := fun D σ H ⟨g, S, H0, Qd, Ed, r, hm, hq, he⟩ =>
  hw _ _ _ ⟨g, S, H0, _, Ed, r.rel, hm, fun d S1 hf v H1 H01 st1 gr1 r1 => by
    rcases r1 with ⟨p, xs, ds, rfl, rfl, h0, h1, h2, h3, rr⟩ | ⟨p, kvs, ks, ds, rfl, rfl, h0, h1, h2, h3, k, rr⟩
    · exact hq _ S1 hf _ H1 H01 (r.own st1 gr1 h0 i ⟨p, xs, rfl, h1, h2, h3, rr⟩) gr1.sub
    · exact hq _ S1 hf _ H1 H01 (r.own st1 gr1 h0 i ⟨p, kvs, rfl, h1, h2, h3, k, rr⟩) gr1.sub, exb r he⟩
theorem s_set (i : Nat) {x : Str} {pos' : Pos} (hN : X.N.Nodup) (h : XE X E e me) (hi : X.N[i]? = some x := by rfl) (hx : Loc X.env.scope x := by first | exact .inl rfl | exact .inr rfl) (hs : swapsWith e (some (.Name x pos')) pos.line X.env = pure false := by rfl)
    (hf : X.fn x = true ∨ X.env.scope.names.lookup x = some .local := by first | exact .inl rfl | exact .inr rfl) : XS X E b (.Assign [.Name x pos'] e pos) (setV me i) := ps_w (ps_set hN hi hx h hs hf) (asg_v fun _ _ _ q => q)
theorem s_setN (i : Nat) {x : Str} {pos' : Pos} (hN : X.N.Nodup) (h : XN X E e me) (hi : X.N[i]? = some x := by rfl) (hx : Loc X.env.scope x := by first | exact .inl rfl | exact .inr rfl) (hs : swapsWith e (some (.Name x pos')) pos.line X.env = pure false := by rfl)
    (hf : X.fn x = true ∨ X.env.scope.names.lookup x = some .local := by first | exact .inl rfl | exact .inr rfl) : XS X E b (.Assign [.Name x pos'] e pos) (setO me i) := ps_w (ps_set hN hi hx h hs hf) (asg_o fun _ _ _ q => q)
/-- a target of any kind -/
theorem s_asg {tg : Expr} {is : List Nat} {t : TG} {f : D → Sg → T Sg} (h : XE X E e me) (hg : PG X tg t) (ht : TgS X.K is t f) (hs : swapsWithSole [tg] e pos.line X.env = pure false := by rfl) (hw : swappedStores [tg] e X.env = pure none := by rfl)
    (h1 : (assignEach [tg] X.env).map (·.2) = [assign tg X.env] := by rfl) : XS X E b (.Assign [tg] e pos) (fun g => T.bind (me g) fun d => T.bind (f d g) fun g' => T.pure (.nx g')) := by
  refine ps_w (ps_asg h hg hs hw h1) fun D σ H ⟨g, S, H0, Qd, Ed, r, hm, hq, he⟩ => ?_
  refine ⟨g, S, H0, _, Ed, r.rel, hm, fun d S1 hf v H1 H01 st1 gr1 r1 => ?_, exb r he⟩
  have r2 := r.grow st1 gr1
  exact ht v d σ g H1 H01 S1 _ Ed _ r2.rel r1 hf fun g' hg' σ' hl ha un ow => hq _ S1 hg' σ' H1 H01 (r2.owned (un _ _ _ r2.rel sbr) ow) gr1.sub
/-- a, b = e1, e2 -/
def par2D (g : Sg) (i j : Nat) : List D → T Out
  | [x, y] => T.pure (.nx ((g.set i (.va x)).set j (.va y)))
  | _ => T.fail
def par2 (i j : Nat) (mar : MA) : MS := fun g => T.bind (mar g) (par2D g i j)
theorem s_par (i j : Nat) {x y : Str} {e1 e2 : Expr} {mar : MA} {px py pt : Pos} {kt k2 pt2} (hc : X.calm = true) (hN : X.N.Nodup) (ha : XA X E [e1, e2] mar) (hi : X.N[i]? = some x := by rfl) (hj : X.N[j]? = some y := by rfl) (hij : i ≠ j := by decide)
    (hx : X.env.scope.names.lookup x = some .local := by rfl) (hy : X.env.scope.names.lookup y = some .local := by rfl)
    (hw : swappedStores [.Tuple [.Name x px, .Name y py] kt pt] (.Tuple [e1, e2] k2 pt2) X.env = pure (some [x, y]) := by rfl)
    (hs : swapsWithSole [.Tuple [.Name x px, .Name y py] kt pt] (.Tuple [e1, e2] k2 pt2) pos.line X.env = pure false := by rfl) :
    XS X E b (.Assign [.Tuple [.Name x px, .Name y py] kt pt] (.Tuple [e1, e2] k2 pt2) pos) (par2 i j mar) := by
  refine ps_w (ps_par hc hN hi hj hij hx hy ha hw hs) fun D σ H ⟨g, S, H0, Qd, Ed, r, hm, hq, he⟩ => ?_
  refine ⟨g, S, H0, _, Ed, r.rel, hm, fun ds S1 hf vs H1 H01 st1 gr1 r1 => ?_, exb r he⟩
  have hf : par2D g i j ds S1 Qd Ed := hf
  unfold par2D at hf
  split at hf
  · cases r1 with
    | cons ra r1 =>
      cases r1 with
      | cons rb r1 =>
        cases r1
        exact ⟨_, _, rfl, hq _ S1 hf _ H1 H01 (((r.grow st1 gr1).set ra i).set rb j) gr1.sub⟩
  · exact hf.elim
/-! ### loops -/
def forT (f : D → Sg → T Sg) (body : MS) : List D → MS
  | [], g => T.pure (.nx g)
  | d :: r, g => T.bind (f d g) fun g1 => T.bind (body g1) fun o => match o with
    | .nx g2 => forT f body r g2
    | .ct g2 => forT f body r g2
    | .bk g2 => T.pure (.nx g2)
    | .rt d => T.pure (.rt d)
theorem s_for {tg iter : Expr} {body : List Stmt} {is : List Nat} {t : TG} {f : D → Sg → T Sg} {mi : MI} {mb : MS} (hp : PassesOwn (model X.prog X.w) X.A X.env X.xe) (hc : X.calm = true) (hi : XI X E tg iter mi) (hg : PG X tg t) (ht : TgS X.K is t f) (hb : XSs X E b body mb)
    (hs : ∀ x, foldedSetIterable iter X.env x = pure x := by intro _; rfl) : XS X E b (.For tg iter body [] pos) (fun g => T.bind (mi g) fun ds => forT f mb ds g) := by
  refine ps_w (ps_for hp hc hi hg hb hs) fun D σ H ⟨g, S, H0, Qd, Ed, r, hm, hq, he⟩ => ?_
  refine ⟨g, S, H0, _, Ed, r.rel, hm, fun ds S1 hf J H1 H01 st1 gr1 wk => ?_, exb r he⟩
  have hq1 : ∀ o S', Qd o S' → Fin X.K b H01 D o S' := fun o S' q => (hq o S' q).mono gr1.sub
  refine ⟨fun i k σ2 H2 => k = ds.length - i ∧ i ≤ ds.length ∧ ∃ g2 S2 H02, RelB X.K b σ2 H2 H02 S2 g2 ∧ Sub H01 H02 ∧ forT f mb (ds.drop i) g2 S2 Qd Ed,
    ⟨ds.length, by simp, Nat.zero_le _, g, S1, H01, r.grow st1 gr1, sbr, hf⟩, ?_⟩
  rintro i k σ2 H2 ⟨rfl, hle, g2, S2, H02, r2, s2, hr⟩
  by_cases hlt : i < ds.length
  · have hd : ds[i]? = some ds[i] := List.getElem?_eq_getElem hlt
    rw [List.drop_eq_getElem_cons hlt] at hr
    obtain ⟨go, yld⟩ := (wk H2 H02 S2 r2.rel.st s2 i).1 _ hd
    refine .inr ⟨go, fun σ3 H3 => i + 1 ≤ ds.length ∧ ∃ g3 S3 H03, RelB X.K b σ3 H3 H03 S3 g3 ∧ Sub H01 H03 ∧ forT f mb (ds.drop (i + 1)) g3 S3 Qd Ed, fun σ3 H3 q => ⟨ds.length - (i + 1), by omega, rfl, q⟩, fun x H3 hy => ?_⟩
    obtain ⟨H03, st3, gr3, rx⟩ := yld x H3 hy
    have r3 := r2.grow st3 gr3
    have s3 : Sub H01 H03 := fun a o q => gr3.sub a o (s2 a o q)
    refine ht x ds[i] σ2 g2 H3 H03 S2 _ Ed _ r3.rel rx hr fun g4 hg4 σ4 hl ha un ow => ?_
    have r4 := r3.owned (un _ _ _ r3.rel sbr) ow
    refine ⟨g4, S2, H03, _, Ed, r4, hg4, fun o S5 hf5 => ?_, he⟩
    cases o with
    | nx g5 => exact fun σ5 H5 H05 r5 s5 => ⟨hlt, g5, S5, H05, r5, fun a o q => s5 a o (s3 a o q), hf5⟩
    | ct g5 => exact fun σ5 H5 H05 r5 s5 => ⟨hlt, g5, S5, H05, r5, fun a o q => s5 a o (s3 a o q), hf5⟩
    | bk g5 => exact fun σ5 H5 H05 r5 s5 => hq1 _ S5 hf5 σ5 H5 H05 r5 fun a o q => s5 a o (s3 a o q)
    | rt d => exact hq1 _ S5 hf5
  · obtain rfl : i = ds.length := by omega
    rw [List.drop_length] at hr
    exact .inl ⟨(wk H2 H02 S2 r2.rel.st s2 _).2 rfl, hq1 _ S2 hr σ2 H2 H02 r2 s2⟩
/-- while: so many turns -/
noncomputable def whileN (t : MT) (body : MS) : Nat → MS
  | 0, _ => T.fail
  | n + 1, g => T.bind (t g) fun k => T.ite k (T.bind (body g) fun o => match o with
    | .nx g2 => whileN t body n g2
    | .ct g2 => whileN t body n g2
    | .bk g2 => T.pure (.nx g2)
    | .rt d => T.pure (.rt d)) (T.pure (.nx g))
noncomputable def whileT (t : MT) (body : MS) : MS := fun g S Q E => ∃ n, whileN t body n g S Q E
theorem s_while {c : Expr} {body : List Stmt} {mb : MS} (hp : PassesOwn (model X.prog X.w) X.A X.env X.xe) (hc : XT X E c mt) (hb : XSs X E b body mb) : XS X E b (.While c body [] pos) (whileT mt mb) := by
  refine ps_w (ps_while hp hc hb) fun D σ H ⟨g, S, H0, Qd, Ed, r, ⟨n, hm⟩, hq, he⟩ => ?_
  refine ⟨fun k σ2 H2 => ∃ g2 S2 H02, RelB X.K b σ2 H2 H02 S2 g2 ∧ Sub H0 H02 ∧ whileN mt mb k g2 S2 Qd Ed, ⟨n, g, S, H0, r, sbr, hm⟩, ?_⟩
  rintro k σ2 H2 ⟨g2, S2, H02, r2, s2, hr⟩
  cases k with
  | zero => exact hr.elim
  | succ k =>
    refine ⟨g2, S2, H02, _, Ed, r2.rel, hr, fun t S3 hf H3 H03 st3 gr3 => ?_, exb r2 he⟩
    have r3 := r2.grow st3 gr3
    have s3 : Sub H0 H03 := fun a o q => gr3.sub a o (s2 a o q)
    cases t with
    | false =>
      have hf := T.iteF hf
      exact hq _ S3 hf σ2 H3 H03 r3 s3
    | true =>
      have hf := T.iteT hf
      refine ⟨fun σ4 H4 => ∃ g4 S4 H04, RelB X.K b σ4 H4 H04 S4 g4 ∧ Sub H0 H04 ∧ whileN mt mb k g4 S4 Qd Ed, fun σ4 H4 q => ⟨k, Nat.lt_succ_self _, q⟩, ?_⟩
      refine ⟨g2, S3, H03, _, Ed, r3, hf, fun o S5 hf5 => ?_, he⟩
      cases o with
      | nx g5 => exact fun σ5 H5 H05 r5 s5 => ⟨g5, S5, H05, r5, fun a o q => s5 a o (s3 a o q), hf5⟩
      | ct g5 => exact fun σ5 H5 H05 r5 s5 => ⟨g5, S5, H05, r5, fun a o q => s5 a o (s3 a o q), hf5⟩
      | bk g5 => exact fun σ5 H5 H05 r5 s5 => hq _ S5 hf5 σ5 H5 H05 r5 fun a o q => s5 a o (s3 a o q)
      | rt d => exact hq _ S5 hf5
/-! ### x.append(e), x[i] = e; x a slot of its own -/
def appO (i : Nat) (me : ME) : MS := fun g => match g[i]? with
  | some (.ow xs) => T.bind (me g) fun d => T.bind (dNeed (xs.length < sizeLine)) fun _ => T.pure (.nx (g.set i (.ow (xs ++ [d]))))
  | _ => T.fail
theorem appO_inv {i : Nat} {me : ME} {g : Sg} {S : Sto} {Qd : Out → Sto → Prop} {Ed : Xn → Sto → Prop} (h : appO i me g S Qd Ed) : ∃ xs, g[i]? = some (.ow xs) ∧ me g S (fun d S' => xs.length < sizeLine ∧ Qd (.nx (g.set i (.ow (xs ++ [d])))) S') Ed := by
  unfold appO at h
  cases hg : g[i]? with
  | none => rw [hg] at h; exact h.elim
  | some s =>
    rw [hg] at h
    cases s with
    | ow xs => exact ⟨xs, rfl, h⟩
    | _ => exact h.elim
theorem s_app (i : Nat) {x : Str} {px apos cpos epos : Pos} (hv : PE X (.Name x px) (tVar i)) (h : XE X E e me) (hbase : attributeBase (.Name x px) "append" X.env (eval (.Name x px) X.env) = eval (.Name x px) X.env := by rfl)
    (hfew : ((backTo cpos (starEach [e] X.env)).all (fun x => !x.1) && (backToKw cpos (keywordEach [] X.env)).all (fun x => x.1.isSome)
      && decide ([e].length + ([] : List Keyword).length + (if ([] : List Keyword).isEmpty then 0 else 1) < 30)) = true := by rfl)
    (hline : (apos.endLine == cpos.line) = true := by rfl) (hs : starEach [e] X.env = (false, eval e X.env) :: starEach [] X.env := by rfl) (hsw : swapsWith (.Call (.Attribute (.Name x px) "append" apos) [e] [] cpos) none epos.line X.env = pure false := by rfl) :
    XS X E b (.Expr (.Call (.Attribute (.Name x px) "append" apos) [e] [] cpos) epos) (appO i me) := by
  refine ps_w (ps_expr (pe_bm PySem.F.plainAttrs_list PySem.F.slot_list_append PySem.F.type_list_append mt_append hv (pa_cons h pa_nil hs) hbase hfew hline hs rfl) hsw) fun D σ H ⟨g, S, H0, Qd, Ed, r, hm, hq, he⟩ => ?_
  obtain ⟨xs, hg, hm⟩ := appO_inv hm
  obtain ⟨p, vs, e0, e1, e2, e3, e4⟩ := r.rel.sl i _ hg
  refine ⟨_, e0, .inl ⟨rfl, vs, .of e1⟩, g, S, H0, _, Ed, r.rel, hm, fun d S1 hf v H1 H01 st1 gr1 r1 => ?_, exb r he⟩
  obtain ⟨hz, hf⟩ := hf
  have r2 := r.grow st1 gr1
  obtain ⟨p', vs', e0', e1', e2', e3', e4'⟩ := r2.rel.sl i _ hg
  rw [e0] at e0'
  cases e0'
  refine ⟨p, vs', v, rfl, rfl, e1', by rw [e4'.length]; exact hz, ?_⟩
  exact hq _ S1 hf σ _ H01 (r2.write hg rfl e0 ⟨p, _, rfl, upd_same, e2', e3', e4'.append (.cons r1 .nil)⟩ rfl) gr1.sub
end

/-! ### defs -/
/-- a def's promise, in data -/
def SpT (K : PySem.W.Frag) (n : Nat) (F : List D → T D) : Sp := fun vs H Q E => ∃ ds S H0 Qd Ed, StR K H H0 S ∧ Rps K H0 vs ds ∧ ds.length = n ∧ F ds S Qd Ed ∧
  (∀ d S', Qd d S' → ∀ v H' H0', StR K H' H0' S' → Grow H H0 S H' H0' S' → Rp K H0' v d → Q v H') ∧ ∀ x S', Ed x S' → EX K E H H0 S x S'
def startG (m : Nat) (ds : List D) : Sg := ds.map Sl.va ++ List.replicate (m - ds.length) .un
def outD : Out → T D
  | .nx _ => T.pure .non
  | .rt d => T.pure d
  | _ => T.fail
/-- a body run at arguments -/
def runD (m : MS) (k : Nat) (ds : List D) : T D := T.bind (m (startG k ds)) outD
theorem rel_start {K : PySem.W.Frag} {H H0 : Hp} {S : Sto} (st : StR K H H0 S) {N : List Str} {vs : List V} {ds : List D} (r : Rps K H0 vs ds) : Rel K (L2.start N vs) H H0 S (startG N.length ds) := by
  have hl := r.length
  refine ⟨st, by unfold L2.start startG; simp [hl], fun i s e => ?_, fun i j si sj p _ hi hj oi => ?_⟩
  · unfold startG at e
    unfold L2.start
    by_cases hi : i < ds.length
    · rw [List.getElem?_append_left (by simpa using hi), List.getElem?_map, List.getElem?_eq_getElem hi] at e
      cases e
      obtain ⟨v, hv, rv⟩ := r.get (List.getElem?_eq_getElem hi)
      refine ⟨v, ?_, rv⟩
      rw [List.getElem?_append_left (by simpa [hl] using hi), List.getElem?_map, hv]; rfl
    · rw [List.getElem?_append_right (by simpa using hi), List.getElem?_replicate] at e
      split at e
      · cases e; exact True.intro
      · cases e
  · unfold startG at hi
    by_cases h : i < ds.length
    · rw [List.getElem?_append_left (by simpa using h), List.getElem?_map, List.getElem?_eq_getElem h] at hi
      cases hi; cases oi
    · rw [List.getElem?_append_right (by simpa using h), List.getElem?_replicate] at hi
      split at hi
      · cases hi; cases oi
      · cases hi
theorem relB_start {K : PySem.W.Frag} {H H0 : Hp} {S : Sto} (st : StR K H H0 S) {N : List Str} {vs : List V} {ds : List D} (r : Rps K H0 vs ds) : RelB K ⟨H, H0, S⟩ (L2.start N vs) H H0 S (startG N.length ds) :=
  ⟨rel_start st r, Grow.refl _ _ _, fun i s p e ow => by
    unfold startG at e
    by_cases h : i < ds.length
    · rw [List.getElem?_append_left (by simpa using h), List.getElem?_map, List.getElem?_eq_getElem h] at e
      cases e; cases ow
    · rw [List.getElem?_append_right (by simpa using h), List.getElem?_replicate] at e
      split at e
      · cases e; cases ow
      · cases e⟩
section
variable {P : Program} {w : World} {K : PySem.W.Frag} {mg : Str → Option Value} {base : Heap}
abbrev FnP (K : PySem.W.Frag) (x qual : Str) (st : Stmt) (f : Addr) (fd : FuncData) : Prop := FunD K x qual (defArgs st) (defBody st) (defScope st) [] [] f fd
abbrev bodyCx (P : Program) (w : World) (K : PySem.W.Frag) (mg : Str → Option Value) (base : Heap) (N : List Str) (qual : Str) (st : Stmt) (f : Addr) (cdv : Value) (A : Around) (outer : List Env) (s : Shared) (H : Hp) (E : XK) : Cx := cxOf (L2.CX P w) P w K mg base N qual (defScope st) f cdv A outer s H E
/-- THE RULE for a def -/
theorem mk_fn {x qual : Str} {st : Stmt} {f : Addr} {fd : FuncData} {N ps : List Str} {k n : Nat} {F : List D → T D} {m : MS} (Fn : FnP K x qual st f fd) (Sc : FnScope N ps (defScope st)) (hn : n = ps.length)
    (hbody : ∀ (cdv : Value) (A : Around) (outer : List Env) (s : Shared) (H : Hp) (E : XK) (b : Bs), Room k (bodyCx P w K mg base N qual st f cdv A outer s H E).A → XSs (bodyCx P w K mg base N qual st f cdv A outer s H E) E b (defBody st) m)
    (hF : ∀ ds S Qd Ed, ds.length = n → F ds S Qd Ed → runD m N.length ds S Qd Ed) : FnOk P w K mg base (L2.CX P w) (k + 1) f fd ps (SpT K n F) := by
  refine FunD.ok Fn Sc (fun vs H Q E h => ?_) fun cdv A outer s H vs Q E hr h => ?_
  · obtain ⟨ds, S, H0, Qd, Ed, st', r, hl, _⟩ := h
    rw [r.length, hl, hn]
  · obtain ⟨ds, S, H0, Qd, Ed, st', r, hl, hf, hq, he⟩ := h
    refine ⟨_, hbody cdv A outer s H E ⟨H, H0, S⟩ hr, startG N.length ds, S, H0, _, Ed, relB_start st' r, hF ds S Qd Ed hl hf, fun o S' q => ?_, he⟩
    cases o with
    | nx g => exact fun σ' H' H0' r' _ => hq _ S' q _ H' H0' r'.rel.st r'.gb .non
    | rt d => exact fun v H' H0' st2 gr2 rv => hq _ S' q v H' H0' st2 gr2 rv
    | bk g => exact q.elim
    | ct g => exact q.elim
end
section
variable {X : Cx} {k n : Nat} {f : Addr} {fd : FuncData} {ps : List Str} {F : List D → T D} {E : XK} {x : Str} {p pos : Pos} {e : Expr} {es : List Expr} {m : MA}
theorem x_call (G : FnOk X.prog X.w X.K X.mg X.base (L2.CX X.prog X.w) k f fd ps (SpT X.K n F)) (hr : Room k X.A) (hm : X.mg x = some (.ref f)) (hk : PySem.W.keepIn X.K (.ref f) = true) (hb : Binds X.K fd ps []) (hx : Passes (L2.CX X.prog X.w) X E) (ha : XA X E (e :: es) m) (hg : Gl X x := by rfl)
    (hdb : (x == ("__debug__" : Str)) = false := by decide) (he : starEach (e :: es) X.env = (false, eval e X.env) :: starEach es X.env := by rfl) (hpl : (backTo pos (starEach es X.env)).any (·.1) = false := by rfl) :
    XE X E (.Call (.Name x p) (e :: es) [] pos) (fun g => T.bind (m g) fun ds => T.bind (dNeed (ds.length = n)) fun _ => F ds) := by
  refine pe_w (pe_call G hr hg hm hk hb .nil hx ha hdb he hpl) fun σ H Q ⟨g, S, H0, Qd, Ed, rel, hm, hq, he⟩ => ?_
  refine ⟨g, S, H0, _, Ed, rel, hm, fun ds S1 hf vs H1 H01 st1 gr1 r1 => ?_, he⟩
  obtain ⟨hn, hf⟩ := hf
  rw [List.append_nil]
  exact ⟨ds, S1, H01, Qd, Ed, st1, r1, hn, hf, fun d S' q v H' H0' st' gr' rv => hq d S' q v H' H0' st' (gr1.trans st1 gr') rv, fun x S' ex => (he x S' ex).grow st1 gr1⟩
theorem x_call0 (G : FnOk X.prog X.w X.K X.mg X.base (L2.CX X.prog X.w) k f fd ps (SpT X.K 0 F)) (hr : Room k X.A) (hm : X.mg x = some (.ref f)) (hk : PySem.W.keepIn X.K (.ref f) = true) (hb : Binds X.K fd ps []) (hx : Passes (L2.CX X.prog X.w) X E) (hg : Gl X x := by rfl)
    (hdb : (x == ("__debug__" : Str)) = false := by decide) : XE X E (.Call (.Name x p) [] [] pos) (fun _ => F []) := by
  refine pe_w (pe_call0 G hr hg hm hk hb .nil hx hdb) fun σ H Q ⟨g, S, H0, Qd, Ed, rel, hm, hq, he⟩ => ?_
  exact ⟨[], S, H0, Qd, Ed, rel.st, .nil, rfl, hm, hq, he⟩
end
end DL

set_option Elab.async false
set_option linter.all false
set_option maxRecDepth 100000
/-! several except clauses, each with a name of its own for what it caught -/
namespace TryN
open PySem PySem.Spec PyProof.Rows L2
/-- a clause: its class, its name's slot, what its suite does -/
structure Cl where
  c : Value
  i : Nat
  ts : Addr → Value → Option Addr → TS
def gone (D : Ends) (i : Nat) : Ends where
  nx := fun σ H => D.nx (σ.set i none) H
  rt := D.rt
  bk := fun σ H => D.bk (σ.set i none) H
  ct := fun σ H => D.ct (σ.set i none) H
def wish (K : PySem.W.Frag) (L : Nat) (Wout : WX) (D : Ends) : List Cl → WX
  | [] => Wout
  | k :: r => fun cls d σ H => ∃ b, PySem.W.exmOne K cls k.c = some b ∧ (b = true → ∀ a, H a = none → σ.length = L → k.ts a cls d (gone D k.i) (σ.set k.i (some (.ref a))) H) ∧ (b = false → wish K L Wout D r cls d σ H)
inductive Hds (X : Cx) : List ExceptHandler → List Cl → Prop
  | nil : Hds X [] []
  | cons {x n : Str} {k : Cl} {b₀ : Stmt} {suite : List Stmt} {np ep : Pos} {hs : List ExceptHandler} {l : List Cl} (hc : Names X x k.c) (hi : X.N[k.i]? = some n) (hl : X.env.kindOf n = some .local)
      (hsu : ∀ (a : Addr) (oe : Obj) (cls : Value) (d : Option Addr) (pn : List (Addr × Obj)), Zc cls d oe → (∃ vs, oe.data = .fields vs) → PSs (X.suite a ((a, oe) :: pn)) (b₀ :: suite) (k.ts a cls d)) (r : Hds X hs l) :
      Hds X (.ExceptHandler (some (.Name x np)) (some n) (b₀ :: suite) ep :: hs) (k :: l)
section
variable {X : Cx} {Wout : WX} {D : Ends} {pins pins' : List (Addr × Obj)} {σ : L2.St} {H : Hp} {cls : Value} {d : Option Addr} {a : Addr} {B : Heap} {sI s : Shared}
/-- the clauses, looked at one after the other; the exception flies -/
theorem clauses (hs : X.stack = X.env :: X.outer) (hf : X.env.frame = some X.env.locals) (hN : X.N.Nodup) (tk : Takes X Wout) (ok : X.Ok) (J : L2.Inv X pins σ H sI)
    (nb : ∀ b o, sI.heap.get? b = some o → b ∉ frs X.stack → B.get? b = some o) (up : sI.heap.UpToSlots s.heap) (fl : HandSPX.FlyingZ B (X.env :: X.outer) a (Zc cls d) s.heap) (na : H a = none) (os : s.os = sI.os) (ag : AllBare s.gens) :
    ∀ {hds : List ExceptHandler} {l : List Cl}, Hds X hds l → wish X.K X.N.length Wout D l cls d σ H → wpAny (model X.prog X.w) X.A (handleBy (.ref a) X.env hds) (SP X pins D) X.xe s := by
  have hz := fl.there
  obtain ⟨oe, vs, he, hzc, hd⟩ := hz
  have out : a ∉ frs (X.env :: X.outer) := fun hm => by
    obtain ⟨_, o', e', hnf⟩ := fl.2.2.1.mem hm
    rw [he] at e'
    cases e'
    exact hnf _ hd
  have nL : a ≠ X.env.locals := fun z => out (List.mem_filterMap.mpr ⟨X.env, List.mem_cons_self, by rw [hf, z]⟩)
  have nF : a ∉ X.fs := fun hm => by
    obtain ⟨e, he, q⟩ := List.mem_filterMap.mp hm
    exact out (List.mem_filterMap.mpr ⟨e, List.mem_cons_of_mem _ he, q⟩)
  have J3 : L2.Inv X pins σ H s := J.landed nb fl.1 up os ag
  have S3 := J3.suite he hd na nL nF
  intro hds l hk
  induction hk with
  | nil =>
    intro w
    refine wpAny_handleBy_nil ?_
    obtain ⟨k1, k2, k3, oe, vs, T, oT, ts', he, hz, hd, h1, hr⟩ := id fl
    unfold PySem.passOn
    refine wpAny_bind (wpAny_field he hd h1 ?_)
    have neN : ¬ ((Value.ref T == Value.none) = true) := by simp
    rw [if_neg neN]
    have last : wpAny (model X.prog X.w) X.A (setFlight (.ref a) X.env.frame) (fun _ s4 => wpAny (model X.prog X.w) X.A (throw (.ref a) : Sem Flow) (SP X pins D) X.xe s4) X.xe s := by
      rw [hf]
      refine HandSPX.setFlight_upZ fl fun h4 hh4 up4 => wpAny_throw (tk _ _ ?_)
      refine ⟨a, B, sI, pins, σ, H, cls, d, rfl, J, nb, up.trans up4, .inr (.inr ?_), na, os, ag, w⟩
      rw [hs]; exact hh4
    first
      | exact wpAny_bind (wpAny_pure (wpAny_bind last))
      | exact wpAny_bind last
  | @cons x n k b₀ suite np ep hds2 l2 hc hi hl hsu r ih =>
    rintro ⟨b, hb1, hyes, hno⟩
    refine wpAny_handleBy_cons (codeAny_handlers_test ?_) (by intro q; cases q)
    have LT : PySem.W.Looks (model X.prog X.w) s.heap (typeOf (.ref a)) cls := fun A Q E s k q => wpAny_typeOf_ref (k _ _ he) (by rw [hzc.1]; exact q)
    have LM := PySem.W.exm_one (M := model X.prog X.w) (J3.kIn) LT hb1
    have test : ∀ {Q : Value → Shared → Prop} {E : Value → Shared → Prop}, Q k.c s → wpAny (model X.prog X.w) (X.A.mark (some (.ref a))) (eval (.Name x np) X.env) Q E s := by
      intro Q E q
      rcases hc with ⟨hg, hdbg, hm | ⟨hm, hv, hnn⟩⟩
      · exact ld_glob (X := X.suite a ((a, oe) :: (X.pn ++ pins))) S3 hg hm q hdbg
      · exact ld_blt (X := X.suite a ((a, oe) :: (X.pn ++ pins))) S3 hg hm hv q hnn hdbg
    refine test (LM.here ?_)
    cases b with
    | false => exact ih (hno rfl)
    | true =>
      refine codeAny_handlers_suite_as ?_
      refine HandSPX.lands_againZ fl fun h4 fl4 up4 => ?_
      have J4 : L2.Inv X pins σ H { s with heap := h4 } := J.landed nb fl4.1 (up.trans up4) os ag
      obtain ⟨oe4, vs4, he4, hz4, hd4⟩ := fl4.there
      have S4 := J4.suite he4 hd4 na nL nF
      refine store_ok (X := X.suite a ((a, oe4) :: (X.pn ++ pins))) (v := .ref a) S4 hN hi (.inl hl) rfl (fun s5 S5 => ?_) (.inr hl)
      refine wpAny_mono ((hsu a oe4 cls d (X.pn ++ pins) hz4 ⟨_, hd4⟩).run [] s5 _ H _ S5 (hyes rfl a na J.len)) (fun f s6 hsp => ?_) (fun _ _ z => False.elim z)
      have leave : ∀ {σ6 : L2.St} {H6 : Hp} {Q : Shared → Prop}, L2.Inv (X.suite a ((a, oe4) :: (X.pn ++ pins))) [] σ6 H6 s6 → (∀ s7, L2.Inv X pins (σ6.set k.i none) H6 s7 → Q s7) →
          wpAny (model X.prog X.w) X.A (do bindName X.env n .none; unbindBehindTheSuite X.env n ep) (fun _ s7 => Q s7) X.xe s6 := fun S6 hq => gone_ok (S6.unsuite ok) hN hi hl hq
      cases f with
      | ret u =>
        obtain ⟨v6, σ6, H6, S6, r6, q6⟩ := hsp
        exact leave S6 fun s7 J7 => ⟨_, _, _, J7, r6, q6⟩
      | _ =>
        obtain ⟨σ6, H6, S6, q6⟩ := hsp
        exact leave S6 fun s7 J7 => ⟨_, _, J7, q6⟩
end
section
variable {X : Cx} {body : List Stmt} {h₀ : ExceptHandler} {hds : List ExceptHandler} {l : List Cl} {pos : Pos} {tb : WX → TS} {Wout : WX}
theorem ps_tryN (hs : X.stack = X.env :: X.outer) (hf : X.env.frame = some X.env.locals) (hN : X.N.Nodup) (tk : Takes X Wout)
    (hb : ∀ (W : WX) (pn : List (Addr × Obj)) (xe : Value → Shared → Prop), Takes (X.tr pn xe) W → PassesOwn (model X.prog X.w) X.A X.env xe → PSs (X.tr pn xe) body (tb W))
    (hh : Hds X (h₀ :: hds) l) : PS X (.Try body (h₀ :: hds) [] [] pos) (fun D σ H => tb (wish X.K X.N.length Wout D l) D σ H) := by
  refine ⟨fun pins s σ H D I h => ?_⟩
  have ok := I.ok
  have hfr : X.A.frames = some (X.env :: X.outer) := by rw [ok.frames, hs]
  let xeB : Value → Shared → Prop := fun e s₁ => wpAny (model X.prog X.w) X.A (noteFrame e X.env) (fun _ s₂ => wpAny (model X.prog X.w) X.A (setFlight e none) (fun _ s₃ => wpAny (model X.prog X.w) X.A (handleBy e X.env (h₀ :: hds)) (SP X pins D) X.xe s₃) X.xe s₂) X.xe s₁
  have caught : Takes (X.tr (X.pn ++ pins) xeB) (wish X.K X.N.length Wout D l) := by
    rintro u s' ⟨a, B, sI, pins', σ', H', cls, d, rfl, J', nb, up, sky, na, os, ag, w⟩
    have J : L2.Inv X pins σ' H' sI := J'.ofTry ok
    have sky' : Sky B (X.env :: X.outer) a (Zc cls d) X.env.locals s'.heap := by rw [← hs]; exact sky
    exact Sky.land Zc.steady hfr hf sky' fun h3 fl3 up3 => clauses (s := { s' with heap := h3 }) hs hf hN tk ok J nb (up.trans up3) fl3 na os ag hh w
  refine wpAny_Try_except (wpAny_mono ((hb _ _ xeB caught PassesOwn.looking).run [] s σ H D (I.toTry _) h) (fun f s1 hsp => ?_) (fun e s1 he => he))
  cases f with
  | next =>
    obtain ⟨σ', H', J', q⟩ := hsp
    exact wpAny_execs_nil ⟨σ', H', J'.ofTry ok, q⟩
  | ret u =>
    obtain ⟨v, σ', H', J', r, q⟩ := hsp
    exact ⟨v, σ', H', J'.ofTry ok, r, q⟩
  | _ =>
    obtain ⟨σ', H', J', q⟩ := hsp
    exact ⟨σ', H', J'.ofTry ok, q⟩
end
end TryN

set_option Elab.async false
set_option linter.all false
set_option maxRecDepth 100000
set_option maxHeartbeats 4000000
namespace DL
open PySem PySem.Spec PyProof.Rows L2 STx OrdS

/-! ### raise -/
/-- what is known of an error's class -/
structure ExcF (K : PySem.W.Frag) (mg : Str → Option Value) (x : Str) : Prop where
  gl : mg x = some (.ref (He.ga K x))
  ex : (He.Fa.exc x).ok K = true
section
variable {X : Cx} {E : XK} {b : Bs} {C : Addr} {x m : Str} {j : Nat} {p p2 pos pos2 : Pos}
theorem s_raise (hc : X.calm = true) (tk : Takes X (fun cls d _ H => E cls d H)) (F : ExcF X.K X.mg x) (hg : Gl X x := by rfl) (hdb : (x == ("__debug__" : Str)) = false := by decide) :
    XS X E b (.Raise (some (.Call (.Name x p) [.Constant (.str m) j p2] [] pos)) none pos2) (fun _ => T.raise ⟨x, []⟩) :=
  ps_w (ps_raise hc tk (pmk_own PySem.F.excBase_ValueError (He.exc_ok F.ex).1 F.gl (He.exc_ok F.ex).2.1 (raises_own (He.exc_ok F.ex).2.2.1 (He.exc_ok F.ex).2.2.2) hg hdb)) fun D σ H ⟨g, S, H0, Qd, Ed, r, hm, hq, he⟩ => he _ _ hm none H H0 r.rel.st r.gb (.inl ⟨rfl, rfl⟩)
end

/-! ### products, sums -/
section
variable {X : Cx} {E : XK} {a b : Expr} {pos : Pos} {ma mb : ME}
abbrev dMul := dI CMul fun i j => D.int (i * j)
theorem x_mul (ha : XB X E a ma) (hb : XB X E b mb) : XE X E (.BinOp a .Mult b pos) (mb2 dMul ma mb) := x_op back_F op_mul (s_I fun _ _ _ => .int _) ha hb
end

/-! ### the store's lists and sources, written -/
theorem StR.upS {K : PySem.W.Frag} {H H0 : Hp} {S : Sto} (st : StR K H H0 S) {a : Addr} {m m' : MO} (ha : S a = some m) (hn : NoCode H a) {o : HO} (hm : RpM K H0 (upd H a o) a m') : StR K (upd H a o) H0 (S.up a m') ∧ Grow H H0 S (upd H a o) H0 (S.up a m') := by
  have n0 : H0 a = none := st.nos a (by rw [ha]; exact fun z => nomatch z)
  refine ⟨⟨fun b u e => ?_, fun b n => ?_, fun b u e => ?_⟩, ⟨fun b u e n => ?_, fun b e _ => e, fun _ _ e => e, fun b n => ?_, fun b n => ?_⟩⟩
  · rw [upd_ne (ne_of_none e n0)]; exact st.sub b u e
  · unfold Sto.up at n
    by_cases hb : b = a
    · rw [hb]; exact n0
    · rw [if_neg hb] at n; exact st.nos b n
  · unfold Sto.up at e
    by_cases hb : b = a
    · subst hb
      rw [if_pos rfl] at e
      cases e; exact hm
    · rw [if_neg hb] at e
      exact (st.sto b u e).keep (fun _ _ q => q) (upd_ne hb) (keepC_upd hn o)
  · have hb : b ≠ a := fun z => by rw [z, ha] at n; cases n
    rw [upd_ne hb]; exact e
  · unfold Sto.up
    by_cases hb : b = a
    · rw [if_pos hb]; exact fun z => nomatch z
    · rw [if_neg hb]; exact n
  · unfold Sto.up at n
    by_cases hb : b = a
    · exact .inl (by rw [hb, ha]; exact fun z => nomatch z)
    · rw [if_neg hb] at n; exact .inl n
theorem sto_same {S : Sto} {a : Addr} {m : MO} (h : S a = some m) : S.up a m = S := by
  funext b
  unfold Sto.up
  by_cases hb : b = a
  · rw [if_pos hb, hb, h]
  · rw [if_neg hb]
@[irreducible] def dPutR (a : Addr) (k : Int) (d : D) (g : Sg) : T Out := fun S Q E => match S a with
    | some .src => (k = 0 ∧ ∃ c : Int, d = .int c ∧ 0 ≤ c ∧ c < 2 ^ srcBits ∧ Q (.nx g) S) ∨ (k = 1 ∧ ∃ c : Int, d = .int c ∧ 0 ≤ c ∧ c < 2147483648 ∧ Q (.nx g) S)
    | some (.lst xs) => ∃ j, ixN xs.length k = some j ∧ Q (.nx g) (S.up a (.lst (xs.set j d)))
    | _ => False
def dPut (o i d : D) (g : Sg) : T Out := match o, i with
  | .ref a, .int k => dPutR a k d g
  | _, _ => T.fail
theorem dPut_inv {o i d : D} {g : Sg} {S : Sto} {Qd : Out → Sto → Prop} {Ed : Xn → Sto → Prop} (h : dPut o i d g S Qd Ed) : ∃ a k, o = .ref a ∧ i = .int k ∧ dPutR a k d g S Qd Ed := by
  unfold dPut at h
  split at h
  · exact ⟨_, _, rfl, rfl, h⟩
  · exact h.elim
section
variable {X : Cx} {E : XK} {b : Bs} {e o i : Expr} {pos tpos : Pos} {me mo mi : ME}
/-- o[i] = e -/
theorem s_put (he : XE X E e me) (ho : XE X E o mo) (hi : XE X E i mi) (hs : swapsWithSole [.Subscript o i tpos] e pos.line X.env = pure false := by rfl) (hw : swappedStores [.Subscript o i tpos] e X.env = pure none := by rfl)
    (h1 : (assignEach [.Subscript o i tpos] X.env).map (·.2) = [assign (.Subscript o i tpos) X.env] := by rfl)
    (ha : ∀ v, assign (.Subscript o i tpos) X.env v = (do
      let ov ← holding [v] (eval o X.env)
      let iv ← holding [v, ov] (eval i X.env)
      standAt tpos
      holding [v, ov, iv] (setItem ov iv v)
      release [v, ov, iv] []) := by intro _; rfl) :
    XS X E b (.Assign [.Subscript o i tpos] e pos) (fun g => T.bind (me g) fun d => T.bind (mo g) fun x => T.bind (mi g) fun y => dPut x y d g) := by
  refine ps_w (ps_asg he (pg_sub ho hi set_list ha) hs hw h1) fun D σ H ⟨g, S, H0, Qd, Ed, r, hm, hq, he⟩ => ?_
  refine ⟨g, S, H0, _, Ed, r.rel, hm, fun d S1 hf v H1 H01 st1 gr1 r1 => ?_, exb r he⟩
  have g1 := r.grow st1 gr1
  refine ⟨g, S1, H01, _, Ed, g1.rel, hf, fun x S2 hf2 w H2 H02 st2 gr2 r2 => ?_, exb g1 he⟩
  have g2 := g1.grow st2 gr2
  refine ⟨g, S2, H02, _, Ed, g2.rel, hf2, fun y S3 hf3 u H3 H03 st3 gr3 r3 => ?_, exb g2 he⟩
  have g3 := g2.grow st3 gr3
  have rv : Rp X.K H03 v d := r1.sub fun a o q => gr3.sub a o (gr2.sub a o q)
  have ro : Rp X.K H03 w x := r2.sub gr3.sub
  have sbA : Sub H0 H03 := fun a o q => gr3.sub a o (gr2.sub a o (gr1.sub a o q))
  obtain ⟨a, k, e1, e2, hf5⟩ := dPut_inv hf3
  clear hf3
  have hf3 := hf5
  clear hf5
  subst e1 e2
  cases ro
  cases r3
  unfold dPutR at hf3
  cases q : S3 a with
  | none => rw [q] at hf3; exact hf3.elim
  | some mo =>
    rw [q] at hf3
    have rm := st3.sto a mo q
    cases mo with
    | src =>
      obtain ⟨c, s, h1, c0, c1, s0, s1⟩ := rm
      rcases hf3 with ⟨rfl, z, rfl, z0, z1, hf3⟩ | ⟨rfl, z, rfl, z0, z1, hf3⟩
      · cases rv
        obtain ⟨st4, gr4⟩ := st3.upS (m' := .src) q (noCode_lst h1) (o := .lst [.int z, .int s]) ⟨z, s, upd_same, z0, z1, s0, s1⟩
        rw [sto_same q] at st4 gr4
        exact ⟨a, _, 0, 0, rfl, rfl, h1, rfl, hq _ _ hf3 _ _ _ (g3.grow st4 gr4) (fun a o q => gr4.sub a o (sbA a o q))⟩
      · cases rv
        obtain ⟨st4, gr4⟩ := st3.upS (m' := .src) q (noCode_lst h1) (o := .lst [.int c, .int z]) ⟨c, z, upd_same, c0, c1, z0, z1⟩
        rw [sto_same q] at st4 gr4
        exact ⟨a, _, 1, 1, rfl, rfl, h1, rfl, hq _ _ hf3 _ _ _ (g3.grow st4 gr4) (fun a o q => gr4.sub a o (sbA a o q))⟩
    | lst xs =>
      obtain ⟨vs, h1, rs⟩ := rm
      obtain ⟨j, hj, hf3⟩ := hf3
      obtain ⟨st4, gr4⟩ := st3.upS (m' := .lst (xs.set j d)) q (noCode_lst h1) (o := .lst (vs.set j v)) ⟨_, upd_same, rs.set rv j⟩
      exact ⟨a, _, k, j, rfl, rfl, h1, by rw [rs.length]; exact hj, hq _ _ hf3 _ _ _ (g3.grow st4 gr4) (fun a o q => gr4.sub a o (sbA a o q))⟩
    | _ => exact hf3.elim
/-- return [c, s]: a new source -/
def srcR (c s : Int) : T Out := fun S Q E => (0 ≤ c ∧ c < 2 ^ srcBits ∧ 0 ≤ s ∧ s < 2147483648) ∧ ∀ a, S a = none → Q (.rt (.ref a)) (S.up a .src)
def srcD : D → T Out
  | .lst [.int c, .int s] => srcR c s
  | _ => T.fail
theorem StR.newS {K : PySem.W.Frag} {H H0 : Hp} {S : Sto} (st : StR K H H0 S) {a : Addr} {m' : MO} (n0 : H0 a = none) (hm : RpM K H0 H a m') : StR K H H0 (S.up a m') := by
  refine ⟨st.sub, fun b n => ?_, fun b u e => ?_⟩
  · unfold Sto.up at n
    by_cases hb : b = a
    · rw [hb]; exact n0
    · rw [if_neg hb] at n; exact st.nos b n
  · unfold Sto.up at e
    by_cases hb : b = a
    · subst hb
      rw [if_pos rfl] at e
      cases e; exact hm
    · rw [if_neg hb] at e
      exact st.sto b u e
theorem Grow.newS {H H0 : Hp} {S : Sto} {H' H0' : Hp} {S' : Sto} (g : Grow H H0 S H' H0' S') {a : Addr} {m' : MO} (hn : H a = none) : Grow H H0 S H' H0' (S'.up a m') := by
  refine ⟨g.keep, g.old, g.sub, fun b n => ?_, fun b n => ?_⟩
  · unfold Sto.up
    by_cases hb : b = a
    · rw [if_pos hb]; exact fun z => nomatch z
    · rw [if_neg hb]; exact g.more b n
  · unfold Sto.up at n
    by_cases hb : b = a
    · exact .inr (by rw [hb]; exact hn)
    · rw [if_neg hb] at n; exact g.new b n
theorem s_retSrc (h : XN X E e me) : XS X E b (.Return (some e) pos) (fun g => T.bind (me g) srcD) := by
  refine ps_w (ps_ret h) fun D σ H ⟨g, S, H0, Qd, Ed, r, hm, hq, he⟩ => ?_
  refine ⟨g, S, H0, _, Ed, r.rel, hm, fun d S1 hf v H1 H01 st1 gr1 r1 => ?_, exb r he⟩
  have gb := r.gb.trans r.rel.st gr1
  unfold srcD at hf
  split at hf
  · rename_i c s
    obtain ⟨⟨c0, c1, s0, s1⟩, hf⟩ := hf
    rcases r1 with ⟨p, xs, ds, rfl, e2, h0, h1, h2, h3, rr⟩ | ⟨p, kvs, ks, ds, e1, e2, _⟩
    · cases e2
      cases rr with
      | cons ra rr => cases rr with
        | cons rb rr =>
          cases rr; cases ra; cases rb
          have bn : b.H p = none := r.gb.fresh r.rel.st h0
          exact hq _ _ (hf p h3) _ H1 H01 (st1.newS h2 (m' := .src) ⟨c, s, h1, c0, c1, s0, s1⟩) (gb.newS bn) (.ref p)
    · cases e2
  · exact hf.elim
end
end DL

set_option Elab.async false
set_option linter.all false
set_option maxRecDepth 100000
set_option maxHeartbeats 4000000
/-! a lambda made, handed on: the heap told in full -/
namespace Lam3
open PySem PySem.Spec PyProof.Rows L2 LamX
/-- nothing new, or a code object at c' that the table at P tells -/
def Step (H H1 : Hp) (P : Addr) (q : Str) : Prop := H1 = H ∨ ∃ ps ps' c', H P = some (.tbl ps) ∧ H c' = none ∧ H1 = upd (upd H P (.tbl ps')) c' (CodeO c' q) ∧ TabS H1 P q
theorem tabS_more {H : Hp} {P c' : Addr} {q : Str} {ps : Array Value} {pos : Pos} (hP : H P = some (.tbl ps)) (ht : TriplesOk ps.toList) (ha : ∀ (pos : Pos) (cv : Value), codeAmong pos ps.toList = some cv → ∃ c, cv = .ref c ∧ H c = some (CodeO c q)) (nC : H c' = none) :
    TabS (upd (upd H P (.tbl (ps ++ #[rawInt pos.line, rawInt pos.col, .ref c']))) c' (CodeO c' q)) P q := by
  have eL : (ps ++ #[rawInt pos.line, rawInt pos.col, Value.ref c']).toList = ps.toList ++ [rawInt pos.line, rawInt pos.col, .ref c'] := by simp
  refine ⟨_, by rw [upd_ne (ne_of_none hP nC), upd_same], ?_, fun p' cv hcv => ?_⟩
  · rw [eL]
    exact PySem.TriplesOk_snoc _ _ _ _ ht
  · rw [eL] at hcv
    rcases among_app _ ht hcv with z | z
    · obtain ⟨c0, e1, e2⟩ := ha p' cv z
      have n1 : c0 ≠ c' := fun w => by rw [w, nC] at e2; cases e2
      have n2 : c0 ≠ P := fun w => by
        rw [w, hP] at e2
        exact codeO_ne ps (Option.some.inj e2).symm
      exact ⟨c0, e1, by rw [upd_ne n1, upd_ne n2]; exact e2⟩
    · exact ⟨c', z, upd_same⟩
section
variable {X : Cx} {pins : List (Addr × Obj)} {σ : L2.St} {H : Hp} {s : Shared}
theorem make {c P : Addr} {q : Str} {params : Arguments} {body : Expr} {scope : Scope} {pos : Pos} {E : Value → Shared → Prop} {Q : Value → Shared → Prop} (I : L2.Inv X pins σ H s) (TB : TabB X.base X.mg c P) (hcode : X.env.code = .ref c) (hq : q = X.env.qual ++ "<lambda>")
    (hT : TabS H P q) (hdef : defaultsOf params X.env = ([], [])) (hfree : ∀ y ∈ scope.names, y.2 = .free → ∃ c, X.env.cells.lookup y.1 = some c)
    (h : ∀ (f c' : Addr) (pm ctv : Value) (H1 : Hp) (s' : Shared), L2.Inv X pins σ H1 s' → Step H H1 P q →
      s'.heap.get? f = some (PySem.W.kla_obj "<lambda>" (X.env.qual ++ "<lambda>") params body scope (cloFrom X.env.cells scope.names []) pm c' ctv) → H1 f = none → f ∉ frs X.stack → H1 c' = some (CodeO c' q) → Q (.ref f) s') :
    wpAny (model X.prog X.w) X.A (eval (.Lambda params body scope pos) X.env) Q E s := by
  subst hq
  obtain ⟨ps, hP, ht, ha⟩ := hT
  refine PySem.W.kla_eval hdef ?_
  have bP : s.heap.BuiltinsAt X.mg P := TB.bm.keeps I.bk
  have oP : s.heap.get? P = some { cls := .none, data := .fields ps } := I.hok P _ hP
  have away : ∀ f, s.heap.objs.size ≤ f → f ∉ frs X.stack := fun f hf z => by
    rcases List.mem_cons.mp (I.stkSub _ z) with e | e
    · have h1 := I.lt
      rw [← e] at h1
      exact Nat.lt_irrefl _ (Nat.lt_of_lt_of_le h1 hf)
    · exact I.nofs hf e
  cases hc : codeAmong pos ps.toList with
  | some cv =>
    obtain ⟨c', rfl, hco⟩ := ha pos cv hc
    refine PySem.W.kla_makeFunctionHit (mg := X.mg) (c := c) (P := P) (ps := ps) (closure_ok hfree) I.ok.glob (I.mod.glob.keeps I.bk) hcode (TB.code.keeps I.bk) oP ht hc bP fun ctv h' tk hx hsz => ?_
    refine h h'.objs.size c' _ ctv H _ (I.kept fun b o e => Heap.get?_push_of_some _ (hx b o e)) (.inl rfl) (Heap.get?_push_size _ rfl) (I.hok.fresh hsz) (away _ hsz) hco
  | none =>
    refine PySem.W.kla_makeFunction (mg := X.mg) (c := c) (P := P) (ps := ps) (closure_ok hfree) I.ok.glob (I.mod.glob.keeps I.bk) hcode (TB.code.keeps I.bk) oP ht hc TB.gP bP fun c' ctv h' tk hx hge hlt hrec htb => ?_
    obtain ⟨c2, oc, vs, t, e2, hoc, hd, hv⟩ := hrec
    cases e2
    have hsz : s.heap.objs.size ≤ h'.objs.size := Nat.le_trans hge (Nat.le_of_lt hlt)
    have nC : H c' = none := I.hok.fresh hge
    refine h h'.objs.size c' _ ctv _ _ (inv_table (t' := tk) (more := #[rawInt pos.line, rawInt pos.col, .ref c']) I hP (fun b o hb e => Heap.get?_push_of_some _ (hx b o hb e)) (Heap.get?_push_of_some _ htb) hge ⟨oc, vs, t, Heap.get?_push_of_some _ hoc, hd, hv⟩)
      (.inr ⟨ps, _, c', hP, nC, rfl, tabS_more hP ht ha nC⟩) (Heap.get?_push_size _ rfl) ?_ (away _ hsz) upd_same
    have n1 : h'.objs.size ≠ c' := Nat.ne_of_gt hlt
    have n2 : h'.objs.size ≠ P := Nat.ne_of_gt (Nat.lt_of_lt_of_le (Heap.lt_size oP) hsz)
    rw [upd_ne n1, upd_ne n2]
    exact I.hok.fresh hsz
/-- what x(lambda: body) does -/
def tCall (P : Addr) (q : Str) (TT : (XK → Hp → VK → Prop) → Hp → VK → Prop) (t : XK → TE) : TE := fun σ H Q => TabS H P q ∧ ∀ H1, Step H H1 P q → TT (fun E H' Q' => t E σ H' Q') H1 Q
theorem call {TT : (XK → Hp → VK → Prop) → Hp → VK → Prop} {x a q : Str} {g c P : Addr} {k : Nat} {pg : Arguments} {bg : List Stmt} {sg : Scope} {dV kV doc pm cdv ct oc : Value} {an od : Option Addr} {osl : Array (Option Value)} {Ng : List Str}
    {params : Arguments} {body : Expr} {scope : Scope} {t : XK → TE} {p lpos pos : Pos} (hg : Gl X x) (hm : X.mg x = some (.ref g)) (hk : PySem.W.keepIn X.K (.ref g) = true)
    (lk : X.K.lookup g = some ⟨oc, od, .func (PySem.W.fnOf x x pg bg sg dV kV doc pm an cdv ct), osl⟩) (hcg : PySem.W.codeIn X.K cdv x = true) (hb : L2.Binds X.K (PySem.W.fnOf x x pg bg sg dV kV doc pm an cdv ct) [a] []) (Sg : FnScope Ng [a] sg) (hNg : Ng[0]? = some a) (hva : Vis sg a)
    (hq : q = X.env.qual ++ "<lambda>") (hG : GivesTo X Ng x sg g cdv bg a q TT) (TB : TabB X.base X.mg c P) (hcode : X.env.code = .ref c) (hr : Room (k + 2) X.A) (L : LamS X.env.scope scope) (hdef : defaultsOf params X.env = ([], []))
    (hbind : ∀ (q : Str) (cl : List (Str × Addr)) (pm cv ctv : Value), bindArgs (PySem.W.kla_fn "<lambda>" q params body scope cl pm cv ctv) ⟨[], []⟩ = pure [])
    (hbody : ∀ (A : Around) (outer : List Env) (s : Shared) (H : Hp) (E : XK) (f c' : Addr), Room k (A.deeper (lamEnv X scope s.heap.objs.size f c')) → PE (lamCx X A outer s H E scope f c') body (t E))
    (hdb : (x == ("__debug__" : Str)) = false) (hd : (a == ("__debug__" : Str)) = false) (hcd : (a == ("__classdict__" : Str)) = false) :
    PE X (.Call (.Name x p) [.Lambda params body scope lpos] [] pos) (tCall P q TT t) := by
  refine ⟨fun pins s σ H Q I ⟨hT, h⟩ => ?_⟩
  refine wpAny_Call_Name_kw (ld_glob I hg hm ?_ hdb)
  refine PySem.W.callWith_K (h₀ := X.base) I.ok.mod.kin hk ?_ (by rfl) (by rfl)
  show wpAny _ _ (spliced ((false, eval (.Lambda params body scope lpos) X.env) :: backTo pos (starEach [] X.env))) _ _ s
  refine Calls.spliced_cons (make I TB hcode hq hT hdef (L.has I.ok) fun f c' pm' ctv H1 s' I1 st hf hfn hfr hco => ?_)
  refine Calls.spliced_nil ⟨I1.kIn, ?_⟩
  have rc : codeAny (model X.prog X.w) X.A (.call (.ref g) ⟨[.ref f], []⟩) (CR C8.CX0 X.stack X.prog X.w H1 s' Q C8.E0) s' := by
    refine run_ofS (N := Ng) (ps := [a]) (us := [.ref f]) (vs := [.ref f]) lk hcg Sg hr I1.env0 (hb s' [.ref f] I1.kIn rfl) (.cons rfl .nil) rfl fun hr' => ?_
    subst hq
    obtain ⟨t', ht', hq'⟩ := hG f c' s' H1 Q (fun E H' Q' => t E σ H' Q') (fun W pn xe E p1 p2 tk hW => pe_act (i := 0) I1 L hf hfn hfr (hbind _ _ _ _ _) tk hW hr' (fun A outer s H hr2 => hbody A outer s H E f c' hr2) hNg hva hd hcd) hco (h H1 st)
    exact ⟨t', ht'.nox, hq'⟩
  refine wpAny_call (codeAny_mono rc fun r s2 hq => ?_)
  match r, hq with
  | .error e, hq => exact (show False from hq).elim
  | .ok (.ret u), hq => exact I1.after hq
  | .ok .next, hq => exact False.elim hq
  | .ok .brk, hq => exact False.elim hq
  | .ok .cont, hq => exact False.elim hq
end
end Lam3

set_option Elab.async false
set_option linter.all false
set_option maxRecDepth 100000
set_option maxHeartbeats 4000000
namespace DL
open PySem PySem.Spec PyProof.Rows L2 STx OrdS

/-! ### the word of a call: try: a() / except C as e: return 'w' if isinstance(e, M) else .. / return 'none' -/
/-- own errors, plain: classes told apart, all of the class M -/
structure ExcT (K : PySem.W.Frag) (M : Str) (ns : List Str) : Prop where
  cl : ∀ x ∈ ns, ExcC K (He.ga K x)
  isM : ∀ x ∈ ns, PySem.W.kitOne K (.ref (He.ga K x)) (.ref (He.ga K M)) = some true
  ex : ∀ x ∈ ns, ∀ y ∈ ns, PySem.W.exmOne K (.ref (He.ga K x)) (.ref (He.ga K y)) = some (decide (x = y))
def wordD (cs : List (Str × Str)) (w0 : Str) (m : T D) : T D := fun S Q E => m S (fun _ S' => Q (.str w0) S') fun x S' => x.fs = [] ∧ ∃ w, cs.lookup x.cls = some w ∧ Q (.str w) S'
/-- the wish about exceptions within -/
def wordX (K : PySem.W.Frag) (cs : List (Str × Str)) (Q : VK) : XK := fun cls o H => o = none ∧ ∃ n w, cls = .ref (He.ga K n) ∧ cs.lookup n = some w ∧ Q (.str w) H
def wordT (K : PySem.W.Frag) (cs : List (Str × Str)) (w0 : Str) : (XK → Hp → VK → Prop) → Hp → VK → Prop := fun tl H Q => tl (wordX K cs Q) H fun _ H' => Q (.str w0) H'
def wSuite (K : PySem.W.Frag) (M : Str) (i : Nat) (w : Str) : Addr → Value → Option Addr → TS := fun a cls d D σ H => ∃ n, cls = .ref (He.ga K n) ∧ d = none ∧ ExcC K (He.ga K n) ∧ PySem.W.kitOne K (.ref (He.ga K n)) (.ref (He.ga K M)) = some true ∧
  σ[i]? = some (some (.ref a)) ∧ D.rt (.str w) H
section
variable {X : Cx}
theorem word_suite {M n : Str} {i : Nat} {w w2 : Str} {p1 p2 p3 p4 p5 p6 p7 p8 : Pos} {j j2 : Nat} (hN : X.N[i]? = some n) (hv : Vis X.env.scope n) (hdn : (n == ("__debug__" : Str)) = false) (hcn : (n == ("__classdict__" : Str)) = false) (hgi : Gl X "isinstance") (hmi : X.mg "isinstance" = none) (hgM : Gl X M) (hmM : X.mg M = some (.ref (He.ga X.K M))) (hdM : (M == ("__debug__" : Str)) = false)
    (a : Addr) (oe : Obj) (cls : Value) (d : Option Addr) (pn : List (Addr × Obj)) (hz : Zc cls d oe) (hf : ∃ vs, oe.data = .fields vs) :
    PSs (X.suite a ((a, oe) :: pn)) [.Return (some (.IfExp (.Call (.Name "isinstance" p1) [.Name n p2, .Name M p3] [] p4) (.Constant (.str w) j p5) (.Constant (.str w2) j2 p6) p7)) p8] (wSuite X.K M i w a cls d) := by
  refine ⟨fun pins s σ H D I h => ?_⟩
  obtain ⟨k, rfl, rfl, hC, hk, hs, hq⟩ := h
  have hc : PE (X.suite a ((a, oe) :: pn)) (.Call (.Name "isinstance" p1) [.Name n p2, .Name M p3] [] p4) _ :=
    pe_callB (call_isE hC hz hf) hgi hmi (by decide +kernel) (pa_cons (pe_var (i := i) hN hv hdn hcn) (pa_cons (pe_glob hgM hmM (v := .ref (He.ga X.K M)) rfl hdM) pa_nil))
  refine (pss_one (ps_ret (pe_ifExp (pt_truth hc (by intro _; rfl)) pe_str pe_str))).run pins s σ H D I ?_
  exact ⟨_, hs, _, _, true, rfl, fun u hu => hu, hk, true, rfl, hq⟩
end
def wCl (K : PySem.W.Frag) (M : Str) (i : Nat) (q : Str × Str) : TryN.Cl := ⟨.ref (He.ga K q.1), i, wSuite K M i q.2⟩
theorem word_wish {K : PySem.W.Frag} {M : Str} {i L : Nat} {Q : VK} {D : Ends} {Wout : WX} (hi : i < L) (hD : D.rt = Q) : ∀ (cs : List (Str × Str)) (ns : List Str), ExcT K M ns → (∀ q ∈ cs, q.1 ∈ ns) → ∀ (cls : Value) (d : Option Addr) (σ : L2.St) (H : Hp), wordX K cs Q cls d H → TryN.wish K L Wout D (cs.map (wCl K M i)) cls d σ H
  | [], _, _, _, _, _, _, _, ⟨_, n, w, _, hl, _⟩ => by cases hl
  | (n0, w0) :: r, ns, T, hns, cls, d, σ, H, ⟨ho, n, w, hcl, hl, hq⟩ => by
    have hnn : n ∈ ns := by
      have hm := PySem.mem_of_lookup hl
      exact hns _ hm
    have h0 : n0 ∈ ns := hns _ List.mem_cons_self
    subst ho hcl
    refine ⟨_, T.ex n hnn n0 h0, fun hb a na hL => ?_, fun hb => ?_⟩
    · have e : n = n0 := of_decide_eq_true hb
      subst e
      have e2 : w = w0 := by
        simp [List.lookup] at hl
        exact hl.symm
      subst e2
      exact ⟨n, rfl, rfl, T.cl n hnn, T.isM n hnn, by show (σ.set i (some (V.ref a)))[i]? = _; rw [List.getElem?_set_self (by rw [hL]; exact hi)], by show D.rt (.str w) H; rw [hD]; exact hq⟩
    · have e : n ≠ n0 := of_decide_eq_false hb
      have hl' : r.lookup n = some w := by
        have e' : (n == n0) = false := by simpa using e
        simp [List.lookup, e'] at hl
        exact hl
      exact word_wish hi hD r ns T (fun q hq => hns q (List.mem_cons_of_mem _ hq)) _ _ σ H ⟨rfl, n, w, rfl, hl', hq⟩
section
variable {X : Cx}
theorem word_gives {Ng : List Str} {x a q M w0 : Str} {sg : Scope} {g : Addr} {cdg : Value} {i j : Nat} {cs : List (Str × Str)} {ns : List Str} {h0 : ExceptHandler} {hds : List ExceptHandler} {p1 p2 p3 p8 p9 p10 : Pos} (T : ExcT X.K M ns) (hns : ∀ q ∈ cs, q.1 ∈ ns) (hNd : Ng.Nodup) (hi : i < Ng.length) (h00 : 0 < Ng.length)
    (hh : ∀ (s : Shared) (H : Hp), TryN.Hds ((cxOf C8.CX0 X.prog X.w X.K X.mg X.base Ng x sg g cdg X.A X.stack s H C8.E0).nox) (h0 :: hds) (cs.map (wCl X.K M i)))
    (hsw : ∀ (s : Shared) (H : Hp), swapsWith (.Call (.Name a p1) [] [] p2) none p3.line (cxOf C8.CX0 X.prog X.w X.K X.mg X.base Ng x sg g cdg X.A X.stack s H C8.E0).env = pure false := by intro _ _; rfl) :
    LamX.GivesTo X Ng x sg g cdg [.Try [.Expr (.Call (.Name a p1) [] [] p2) p3] (h0 :: hds) [] [] p8, .Return (some (.Constant (.str w0) j p9)) p10] a q (wordT X.K cs w0) := by
  intro f c' s H Q tl act hc h
  have s0 : ∀ f : Addr, (L2.start Ng [V.ref f])[0]? = some (some (V.ref f)) := fun f => rfl
  refine ⟨_, pss_cons (TryN.ps_tryN (X := (cxOf C8.CX0 X.prog X.w X.K X.mg X.base Ng x sg g cdg X.A X.stack s H C8.E0).nox)
      (tb := fun W D σ H => ∃ Ech : XK, (∀ cls d σ' H', Ech cls d H' → W cls d σ' H') ∧ σ[0]? = some (some (.ref f)) ∧ H c' = some (LamX.CodeO c' q) ∧ tl Ech H fun _ H' => D.nx σ H')
      rfl rfl hNd LamX.takes0 (fun W pn xe tk _ => ?_) (hh s H)) (pss_one (ps_ret pe_str)), ?_⟩
  · refine ⟨fun pins s' σ H' D I h' => ?_⟩
    obtain ⟨Ech, hW, h1, h2, h3⟩ := h'
    exact (pss_one (ps_expr (pos := p3) (act W pn xe Ech p1 p2 tk hW) (hsw s H))).run pins s' σ H' D I ⟨h1, h2, h3⟩
  · refine ⟨wordX X.K cs Q, fun cls d σ' H' z => ?_, s0 f, hc, h⟩
    refine word_wish (Q := Q) hi ?_ cs ns T hns cls d σ' H' z
    rfl
end

/-! ### x(lambda: body), x such a def -/
/-- the table at P is one of the store's -/
def lamD {α : Type} (P : Addr) (q : Str) (m : T α) : T α := fun S Q E => S P = some (.tab q) ∧ m S Q E
theorem StR.lam {K : PySem.W.Frag} {H H0 : Hp} {S : Sto} (st : StR K H H0 S) {P : Addr} {q : Str} (hT : S P = some (.tab q)) {H1 : Hp} (e : Lam3.Step H H1 P q) : StR K H1 H0 S ∧ Grow H H0 S H1 H0 S := by
  rcases e with rfl | ⟨ps, ps', c', hP, nC, e, ht⟩
  · exact ⟨st, Grow.refl _ _ _⟩
  have nP : H0 P = none := st.nos P (by rw [hT]; exact fun z => nomatch z)
  have nC0 : H0 c' = none := by
    cases q : H0 c' with
    | none => rfl
    | some o => rw [st.sub _ _ q] at nC; cases nC
  have ne : P ≠ c' := ne_of_none hP nC
  have at_ : ∀ b, b ≠ P → b ≠ c' → H1 b = H b := fun b h1 h2 => by rw [e, upd_ne h2, upd_ne h1]
  have kc : KeepC H H1 := fun c q h => by
    have h1 : c ≠ P := fun z => by rw [z, hP] at h; cases h
    rw [at_ c h1 (ne_of_none h nC)]; exact h
  refine ⟨⟨fun a o h => ?_, st.nos, fun a m h => ?_⟩, ⟨fun a o h n => ?_, fun a h _ => h, fun _ _ h => h, fun a h => h, fun a h => .inl h⟩⟩
  · rw [at_ a (ne_of_none h nP) (ne_of_none h nC0)]; exact st.sub a o h
  · by_cases hb : a = P
    · subst hb
      rw [hT] at h
      cases h
      exact ht
    · have rm := st.sto a m h
      have hc : a ≠ c' := fun z => rm.there (by rw [z]; exact nC)
      exact rm.keep (fun _ _ q => q) (at_ a hb hc) kc
  · have hb : a ≠ P := fun z => by rw [z, hT] at n; cases n
    rw [at_ a hb (ne_of_none h nC)]; exact h
/-- what is told of such a def -/
structure WordDef (K : PySem.W.Frag) (mg : Str → Option Value) (x a : Str) (st : Stmt) (Ng : List Str) (fd : FuncData) : Prop where
  gl : mg x = some (.ref (He.ga K x))
  fn : FnP K x x st (He.ga K x) fd
  bi : L2.Binds K fd [a] []
  sc : FnScope Ng [a] (defScope st)
  n0 : Ng[0]? = some a
  vs : Vis (defScope st) a
  da : (a == ("__debug__" : Str)) = false
  ca : (a == ("__classdict__" : Str)) = false
section
variable {X : Cx} {E : XK}
theorem x_lamword {x a q w0 : Str} {c P : Addr} {k : Nat} {stw : Stmt} {Ng : List Str} {cs : List (Str × Str)} {params : Arguments} {body : Expr} {scope : Scope} {mb : ME} {p lpos pos : Pos}
    (F : ∃ fd, WordDef X.K X.mg x a stw Ng fd) (hG : ∀ cdv, LamX.GivesTo X Ng x (defScope stw) (He.ga X.K x) cdv (defBody stw) a q (wordT X.K cs w0)) (TB : LamX.TabB X.base X.mg c P) (hcode : X.env.code = .ref c) (hr : Room (k + 2) X.A) (L : LamX.lamSB X.env.scope scope = true)
    (hbody : ∀ (A : Around) (outer : List Env) (s : Shared) (H : Hp) (E : XK) (f c' : Addr), Room k (A.deeper (LamX.lamEnv X scope s.heap.objs.size f c')) → Passes (L2.CX X.prog X.w) (LamX.lamCx X A outer s H E scope f c') E → PE (LamX.lamCx X A outer s H E scope f c') body (lf X.K E (RF X.K) mb))
    (hg : Gl X x := by rfl) (hq : q = X.env.qual ++ "<lambda>" := by rfl) (hdef : defaultsOf params X.env = ([], []) := by rfl)
    (hbind : ∀ (q : Str) (cl : List (Str × Addr)) (pm cv ctv : Value), bindArgs (PySem.W.kla_fn "<lambda>" q params body scope cl pm cv ctv) ⟨[], []⟩ = pure [] := by intro _ _ _ _ _; rfl)
    (hdb : (x == ("__debug__" : Str)) = false := by decide) :
    XE X E (.Call (.Name x p) [.Lambda params body scope lpos] [] pos) (fun g => lamD P q (wordD cs w0 (mb g))) := by
  obtain ⟨fd, F⟩ := F
  obtain ⟨oc, od, dV, kV, doc, pm, an, cdv, ct, osl, rfl, lk, hcd, _, _⟩ := F.fn.ex
  have ps : ∀ (A : Around) (outer : List Env) (s : Shared) (H : Hp) (E : XK) (f c' : Addr), Passes (L2.CX X.prog X.w) (LamX.lamCx X A outer s H E scope f c') E := fun A outer s H E f c' =>
    passes_call (takes_of (E := E) rfl rfl rfl rfl) fun _ _ _ _ h => h
  refine pe_w (Lam3.call hg F.gl F.fn.kp lk hcd F.bi F.sc F.n0 F.vs hq (hG cdv) TB hcode hr (LamX.lamS_by L) hdef hbind (fun A outer s H E f c' h => hbody A outer s H E f c' h (ps A outer s H E f c')) hdb F.da F.ca) fun σ H Q ⟨g, S, H0, Qd, Ed, rel, hm, hq, he⟩ => ?_
  obtain ⟨hT, hm⟩ := hm
  refine ⟨rel.st.sto P _ hT, fun H1 e => ?_⟩
  obtain ⟨st1, gr1⟩ := rel.st.lam hT e
  refine ⟨g, S, H0, _, _, rel.grow st1 gr1, hm, fun d S' h v H' H0' st' gr' r => hq _ S' h _ H' H0' st' (gr1.trans st1 gr') (.str _), fun x S' h o H' H0' st' gr' rx => ?_⟩
  obtain ⟨hf, w, hw, h⟩ := h
  refine ⟨?_, x.cls, w, rfl, hw, hq _ S' h _ H' H0' st' (gr1.trans st1 gr') (.str _)⟩
  rcases rx with ⟨_, e⟩ | ⟨e, _⟩
  · exact e
  · exact absurd hf e
end
end DL

set_option Elab.async false
set_option linter.all false
set_option maxRecDepth 100000
set_option maxHeartbeats 4000000
namespace DL
open PySem PySem.Spec PyProof.Rows L2 STx OrdS

/-! ### defs by name -/
structure Ok (P : Program) (w : World) (K : PySem.W.Frag) (mg : Str → Option Value) (base : Heap) (k : Nat) (x : Str) (ps : List Str) (F : List D → T D) : Prop where
  ex : ∃ fd, FnOk P w K mg base (L2.CX P w) k (He.ga K x) fd ps (SpT K ps.length F) ∧ L2.Binds K fd ps [] ∧ ∃ oc od osl, K.lookup (He.ga K x) = some ⟨oc, od, .func fd, osl⟩
  gl : mg x = some (.ref (He.ga K x))
  kp : PySem.W.keepIn K (.ref (He.ga K x)) = true
/-- what the head tells of a def -/
structure DefF (K : PySem.W.Frag) (mg : Str → Option Value) (x : Str) (st : Stmt) : Prop where
  fn : ∃ fd, FnP K x x st (He.ga K x) fd
  gl : mg x = some (.ref (He.ga K x))
section
variable {P : Program} {w : World} {K : PySem.W.Frag} {mg : Str → Option Value} {base : Heap}
theorem mk_ok {x : Str} {st : Stmt} {N ps : List Str} {k : Nat} {F : List D → T D} {m : MS} (Fn : DefF K mg x st) (Sc : FnScope N ps (defScope st))
    (hb : ∀ (kV doc pm : Value) (an : Option Addr) (cdv ct : Value) (us : List Value), us.length = ps.length → bindArgs (PySem.W.fnOf x x (defArgs st) (defBody st) (defScope st) .none kV doc pm an cdv ct) ⟨us, []⟩ = pure (ps.zip us))
    (hbody : ∀ (cdv : Value) (A : Around) (outer : List Env) (s : Shared) (H : Hp) (E : XK) (b : Bs), cdv = .ref (He.codeOf K (x, none)) → Room k (bodyCx P w K mg base N x st (He.ga K x) cdv A outer s H E).A → XSs (bodyCx P w K mg base N x st (He.ga K x) cdv A outer s H E) E b (defBody st) m)
    (hF : ∀ ds S Qd Ed, ds.length = ps.length → F ds S Qd Ed → runD m N.length ds S Qd Ed) : Ok P w K mg base (k + 1) x ps F := by
  obtain ⟨fd, Fn', gl⟩ := show ∃ fd, FnP K x x st (He.ga K x) fd ∧ mg x = some (.ref (He.ga K x)) from let ⟨fd, h⟩ := Fn.fn; ⟨fd, h, Fn.gl⟩
  have bi := FunD.bindsN Fn' hb
  obtain ⟨oc, od, dV, kV, doc, pm, an, cdv, ct, osl, rfl, lk, hcd, _, _⟩ := Fn'.ex
  refine ⟨⟨_, ?_, bi, _, _, _, lk⟩, gl, Fn'.kp⟩
  have hc : cdv = .ref (He.codeOf K (x, none)) := by
    obtain ⟨c, rfl⟩ := He.codeIn_ref hcd
    exact congrArg Value.ref (He.codeOf_eq (p := (x, none)) lk rfl).symm
  refine fn_of lk hcd Sc (fun vs H Q E h => ?_) fun A outer s H vs Q E hr h => ?_
  · obtain ⟨ds, S, H0, Qd, Ed, st', r, hl, _⟩ := h
    rw [r.length, hl]
  · obtain ⟨ds, S, H0, Qd, Ed, st', r, hl, hf, hq, he⟩ := h
    refine ⟨_, hbody cdv A outer s H E ⟨H, H0, S⟩ hc hr, startG N.length ds, S, H0, _, Ed, relB_start st' r, hF ds S Qd Ed hl hf, fun o S' q => ?_, he⟩
    cases o with
    | nx g => exact fun σ' H' H0' r' _ => hq _ S' q _ H' H0' r'.rel.st r'.gb .non
    | rt d => exact fun v H' H0' st2 gr2 rv => hq _ S' q v H' H0' st2 gr2 rv
    | bk g => exact q.elim
    | ct g => exact q.elim
/-- a def that is never called -/
theorem ok_fail {x : Str} {st : Stmt} {k : Nat} {ps : List Str} (Fn : DefF K mg x st)
    (hb : ∀ (kV doc pm : Value) (an : Option Addr) (cdv ct : Value) (us : List Value), us.length = ps.length → bindArgs (PySem.W.fnOf x x (defArgs st) (defBody st) (defScope st) .none kV doc pm an cdv ct) ⟨us, []⟩ = pure (ps.zip us)) : Ok P w K mg base k x ps fun _ => T.fail := by
  obtain ⟨fd, h⟩ := Fn.fn
  have bi := FunD.bindsN h hb
  obtain ⟨oc, od, dV, kV, doc, pm, an, cdv, ct, osl, rfl, lk, hcd, _, _⟩ := h.ex
  refine ⟨⟨_, ⟨fun vs H Q E h => ?_, fun A outer s H args us vs Q E hr e0 hb r h => ?_⟩, bi, _, _, _, lk⟩, Fn.gl, h.kp⟩
  · obtain ⟨_, _, _, _, _, _, _, _, hf, _⟩ := h
    exact hf.elim
  · obtain ⟨_, _, _, _, _, _, _, _, hf, _⟩ := h
    exact hf.elim
theorem Ok.mono {j k : Nat} {x : Str} {ps : List Str} {F : List D → T D} (O : Ok P w K mg base j x ps F) (h : j ≤ k) : Ok P w K mg base k x ps F :=
  let ⟨fd, G, b⟩ := O.ex
  ⟨⟨fd, G.mono h, b⟩, O.gl, O.kp⟩
end
section
variable {X : Cx} {j k : Nat} {ps : List Str} {F : List D → T D} {E : XK} {x : Str} {p pos : Pos} {e : Expr} {es : List Expr} {m : MA}
theorem x_fn (O : Ok X.prog X.w X.K X.mg X.base j x ps F) (hr : Room k X.A) (hj : j ≤ k) (hx : Passes (L2.CX X.prog X.w) X E) (ha : XA X E (e :: es) m) (hg : Gl X x := by rfl)
    (hdb : (x == ("__debug__" : Str)) = false := by decide) (he : starEach (e :: es) X.env = (false, eval e X.env) :: starEach es X.env := by rfl) (hpl : (backTo pos (starEach es X.env)).any (·.1) = false := by rfl) :
    XE X E (.Call (.Name x p) (e :: es) [] pos) (fun g => T.bind (m g) fun ds => T.bind (dNeed (ds.length = ps.length)) fun _ => F ds) := by
  obtain ⟨fd, G, b, _⟩ := O.ex
  exact x_call G (hr.mono hj) O.gl O.kp b hx ha hg hdb he hpl
theorem x_fn0 (O : Ok X.prog X.w X.K X.mg X.base j x [] F) (hr : Room k X.A) (hj : j ≤ k) (hx : Passes (L2.CX X.prog X.w) X E) (hg : Gl X x := by rfl) (hdb : (x == ("__debug__" : Str)) = false := by decide) : XE X E (.Call (.Name x p) [] [] pos) (fun _ => F []) := by
  obtain ⟨fd, G, b, _⟩ := O.ex
  exact x_call0 G (hr.mono hj) O.gl O.kp b hx hg hdb
end

/-! ### a law's end -/
/-- the store in which a law begins: its tables -/
def S0 (K : PySem.W.Frag) (tq : List (He.Defn × Str)) : Sto := fun a => ((tq.map fun p => ((He.cT K p.1).2, p.2)).lookup a).map MO.tab
theorem lookup_of {α β : Type} [BEq α] [LawfulBEq α] : ∀ {l : List (α × β)}, (l.map (·.1)).Nodup → ∀ {p : α × β}, p ∈ l → l.lookup p.1 = some p.2
  | [], _, _, h => by cases h
  | (a, b) :: r, nd, p, h => by
    rw [List.map_cons, List.nodup_cons] at nd
    rcases List.mem_cons.mp h with e | h
    · subst e; simp [List.lookup]
    · have ne : p.1 ≠ a := fun e => nd.1 (by rw [← e]; exact List.mem_map.mpr ⟨p, h, rfl⟩)
      have e' : (p.1 == a) = false := by simpa using ne
      simp only [List.lookup, e']
      exact lookup_of nd.2 h
theorem mem_lookup' {α β : Type} [BEq α] [LawfulBEq α] {a : α} {b : β} : ∀ {l : List (α × β)}, l.lookup a = some b → (a, b) ∈ l
  | [], h => by cases h
  | (c, d) :: r, h => by
    by_cases e : a = c
    · subst e
      simp [List.lookup] at h
      subst h
      exact List.mem_cons_self
    · have e' : (a == c) = false := by simpa using e
      simp only [List.lookup, e'] at h
      exact List.mem_cons_of_mem _ (mem_lookup' h)
theorem law_end {l : PySem.W.OpenLaw} {n k N : Nat} {q : Program} {loose : List Str} {XP : (Str → Option Value) → Heap → Prop} {d : DefRec} {fa : List He.Fa} {fn : List He.DefD} {ts : List He.Tab} {tq : List (He.Defn × Str)} {ex : PySem.W.Frag → Bool} {x lawN : Str} {F : PySem.W.Frag → List D → T D}
    (hn : l.most = some n) (hn2 : n ≤ sizeLine) (hdf : d.params.defaults = []) (hr : Room k callerA) (hdn : d.name = lawN)
    (ok : ∀ (w : World) (K : PySem.W.Frag) (mg : Str → Option Value) (h : Heap), K.In h → h.Ns mainGlobals mg → He.SaysX fa fn ts (tq.map (·.1)) ex w h K → (∃ fd, (∀ (s : Shared) (u : Value), BindsTo s fd ⟨[u], []⟩ [(x, u)]) ∧ ∃ oc od osl, K.lookup (He.ga K lawN) = some ⟨oc, od, .func fd, osl⟩) ∧ mg lawN = some (.ref (He.ga K lawN)) ∧
      ∀ base : Heap, K.In base → base.Ns mainGlobals mg → (∀ p ∈ tq, LamX.TabB base mg (He.cT K p.1).1 (He.cT K p.1).2) → Ok l.prog w K mg base k lawN [x] (F K))
    (hex : ∀ K, ex K = true → (tq.map fun p => (He.cT K p.1).2).Nodup)
    (data : ∀ (K : PySem.W.Frag) (ns : List Int), ex K = true → ns.length ≤ n → (∀ z ∈ ns, Builtin.Int.intBits z ≤ 1048576) → F K [.frz (ns.map D.int)] (S0 K tq) (fun d _ => d = .bl true) fun _ _ => False) :
    PySem.W.WalkO q loose XP (He.hookX N fa fn ts (tq.map (·.1)) ex).says l.row.toRowW d [] (fun f vs => PySem.call f vs) := by
  refine LamX.walk_ofTsE (x := x) (k := k) (CX := fun w => L2.CX l.prog w) hn hn2 hdf hr (fun w mg fad h Y G hmg => ?_) fun w H s e s' z => by
    obtain ⟨_, _, _, _, _, _, _, _, _, _, _, _, z⟩ := z
    exact z
  obtain ⟨K, KX, c⟩ := Y
  obtain ⟨⟨fd, hb, oc, od, osl, lk⟩, hgl, hO⟩ := ok w K mg h KX G c
  have hF : ∀ base : Heap, K.In base → base.Ns mainGlobals mg → (∀ p ∈ tq, LamX.TabB base mg (He.cT K p.1).1 (He.cT K p.1).2) → FnOk l.prog w K mg base (L2.CX l.prog w) k (He.ga K lawN) fd [x] (SpT K 1 (F K)) := fun base h1 h2 h3 => by
    obtain ⟨fd', G', _, oc', od', osl', lk'⟩ := (hO base h1 h2 h3).ex
    rw [lk] at lk'
    have e : fd = fd' := by injection lk' with e; injection e with _ _ e _; injection e
    subst e
    exact G'
  rw [hdn] at hmg
  have e : fad = He.ga K lawN := by
    rw [hmg] at hgl
    exact Value.ref.inj (Option.some.inj hgl)
  subst e
  have nd := hex K c.more
  have mem : ∀ p ∈ (tq.map (·.1)).map (He.cT K), ∃ t ∈ tq, p = He.cT K t.1 := fun p hp => by
    obtain ⟨d, hd, rfl⟩ := List.mem_map.mp hp
    obtain ⟨t, ht, rfl⟩ := List.mem_map.mp hd
    exact ⟨t, ht, rfl⟩
  refine ⟨K, KX, fd, (tq.map (·.1)).map (He.cT K), SpT K 1 (F K), fun p hp => ?_, fun p hp => ?_, fun p hp => ?_, hb, fun H a ns hl hbits hH hS => ?_, fun base h1 h2 h3 => hF base h1 h2 fun t ht => h3 _ (List.mem_map.mpr ⟨t.1, List.mem_map.mpr ⟨t, ht, rfl⟩, rfl⟩)⟩
  · obtain ⟨t, ht, rfl⟩ := mem p hp
    exact c.empty _ (List.mem_map.mpr ⟨t, ht, rfl⟩)
  · obtain ⟨t, ht, rfl⟩ := mem p hp
    exact c.out _ (List.mem_map.mpr ⟨t, ht, rfl⟩)
  · obtain ⟨t, ht, rfl⟩ := mem p hp
    exact PySem.W.codeHd_of_K KX (c.hd _ (List.mem_map.mpr ⟨t, ht, rfl⟩))
  · have nd2 : ((tq.map fun p => ((He.cT K p.1).2, p.2)).map (·.1)).Nodup := by rw [List.map_map]; exact nd
    have tabs : ∀ b m, S0 K tq b = some m → ∃ t ∈ tq, b = (He.cT K t.1).2 ∧ m = .tab t.2 := fun b m e => by
      unfold S0 at e
      obtain ⟨s, h1, h2⟩ := Option.map_eq_some_iff.mp e
      obtain ⟨t, ht, e2⟩ := List.mem_map.mp (mem_lookup' h1)
      cases e2
      exact ⟨t, ht, rfl, h2.symm⟩
    have at_ : ∀ t ∈ tq, H (He.cT K t.1).2 = some (.tbl #[]) := fun t ht => hH _ (List.mem_map.mpr ⟨t.1, List.mem_map.mpr ⟨t, ht, rfl⟩, rfl⟩)
    refine ⟨[.frz (ns.map D.int)], S0 K tq, fun b => if S0 K tq b = none then H b else none, fun d _ => d = .bl true, fun _ _ => False, ⟨fun b o e => ?_, fun b n => if_neg n, fun b m e => ?_⟩, .cons (.frz ?_ (Rps.ofInts ns)) .nil, rfl, data K ns c.more hl hbits, fun d S' e v H' H0' _ _ r => ?_, fun x S' z => z.elim⟩
    · by_cases hb : S0 K tq b = none
      · have e' : (if S0 K tq b = none then H b else none) = some o := e
        rw [if_pos hb] at e'; exact e'
      · have e' : (if S0 K tq b = none then H b else none) = some o := e
        rw [if_neg hb] at e'; cases e'
    · obtain ⟨t, ht, rfl, rfl⟩ := tabs b m e
      exact LamX.TabS.nil (at_ t ht)
    · have na : ∀ u, H a = some u → (∀ ps, u ≠ .tbl ps) → (if S0 K tq a = none then H a else none) = some u := fun u e hu => by
        have hb : S0 K tq a = none := by
          cases q : S0 K tq a with
          | none => rfl
          | some m =>
            obtain ⟨t, ht, rfl, _⟩ := tabs a m q
            rw [at_ t ht] at e
            exact absurd (Option.some.inj e).symm (hu _)
        rw [if_pos hb]; exact e
      rcases hS with (h | ⟨o, h⟩) | h
      · exact .inl (.inl (na _ h fun ps z => nomatch z))
      · exact .inl (.inr ⟨o, na _ h fun ps z => nomatch z⟩)
      · exact .inr h
    · have e : d = .bl true := e
      subst e
      cases r
      rfl
end DL

set_option Elab.async false
set_option linter.all false
set_option maxRecDepth 100000
set_option maxHeartbeats 4000000
/-! t[::-1], t a tuple -/
namespace RevT
open PySem PySem.Spec PyProof.Rows HT
theorem adj (n : Nat) : Builtin.Slice.sliceAdjust none none (-1) (n : Int) = ((n : Int) - 1, -1) := by
  unfold Builtin.Slice.sliceAdjust
  simp
theorem plc (n : Nat) : Builtin.Slice.slicePlaces ((n : Int) - 1) (-1) (-1) = n := by
  unfold Builtin.Slice.slicePlaces
  by_cases h : n = 0
  · subst h; decide
  · have h1 : ((n : Int) - 1 > -1) := by omega
    have h2 : ¬ ((-1 : Int) > 0) := by decide
    rw [if_neg h2, if_pos h1]
    have e : (((n : Int) - 1 - -1 - 1) / - -1 + 1) = n := by
      rw [show (- -1 : Int) = 1 by decide, Int.ediv_one]; omega
    rw [e]; simp
theorem fm {α β : Type} {f g : α → Option β} : ∀ {l : List α}, (∀ x ∈ l, f x = g x) → l.filterMap f = l.filterMap g
  | [], _ => rfl
  | a :: l, h => by rw [List.filterMap_cons, List.filterMap_cons, h a List.mem_cons_self, fm fun x hx => h x (List.mem_cons_of_mem _ hx)]
theorem pick (xs : Array Value) : ((List.range xs.size).filterMap fun (m : Nat) => xs[((xs.size : Int) - 1 + (m : Int) * -1).toNat]?).toArray = xs.toList.reverse.toArray := by
  have e : (List.range xs.size).filterMap (fun (m : Nat) => xs[((xs.size : Int) - 1 + (m : Int) * -1).toNat]?) = (List.range xs.size).filterMap (fun (m : Nat) => xs[xs.size - 1 - m]?) := by
    refine fm fun m hm => ?_
    have := List.mem_range.mp hm
    have e : ((xs.size : Int) - 1 + (m : Int) * -1).toNat = xs.size - 1 - m := by omega
    rw [e]
  have e2 : (List.range xs.size).filterMap (fun (m : Nat) => xs[xs.size - 1 - m]?) = ((List.range xs.size).map fun k => xs.size - 1 - k).filterMap (xs[·]?) := by
    rw [List.filterMap_map]; rfl
  rw [e, e2, PySem.W.krv_range, List.filterMap_reverse, PySem.W.krv_all]
section
variable {prog : Program} {w : World} {A : Around} {E : Value → Shared → Prop} {s : Shared}
theorem applied {sl : Addr} {vl vu vs : Value} {n : Nat} {Q : Int × Int × Nat → Shared → Prop} (hs : s.heap.IsSliceOf sl vl vu vs) (pl : IsPart vl none) (pu : IsPart vu none) (ps : IsPart vs (some (-1)))
    (h : Q ((n : Int) - 1, -1, n) s) : wpAny (model prog w) A (Builtin.Slice.sliceApplied (.ref sl) (pure (n : Int))) Q E s := by
  obtain ⟨os, hos, hcs, hds⟩ := id hs
  unfold Builtin.Slice.sliceApplied Builtin.Slice.sliceFields
  refine wpAny_bind (wpAny_bind (wpAny_field hos hds (x := vl) rfl (wpAny_bind (wpAny_field hos hds (x := vu) rfl (wpAny_bind (wpAny_field hos hds (x := vs) rfl (wpAny_pure ?_)))))))
  refine wpAny_bind (slicePart_ ps ?_)
  show wpAny _ _ (if ((-1 : Int) == 0) = true then _ else _) _ _ s
  rw [if_neg (by decide)]
  refine wpAny_bind (slicePart_ pl (wpAny_bind (slicePart_ pu (wpAny_bind (wpAny_pure ?_)))))
  show wpAny _ _ (match Builtin.Slice.sliceAdjust none none (-1) (n : Int) with | (lo, hi) => pure (lo, (-1 : Int), Builtin.Slice.slicePlaces lo hi (-1))) _ _ s
  rw [adj n]
  show wpAny _ _ (pure ((n : Int) - 1, (-1 : Int), Builtin.Slice.slicePlaces ((n : Int) - 1) (-1) (-1))) _ _ s
  rw [plc]
  exact wpAny_pure h
theorem getItem {t sl : Addr} {items : Array Value} {vl vu vs : Value} {Q : Value → Shared → Prop} (ht : IsTup s.heap t items) (hs : s.heap.IsSliceOf sl vl vu vs) (pl : IsPart vl none) (pu : IsPart vu none) (ps : IsPart vs (some (-1)))
    (h : Q (.ref s.heap.objs.size) { s with heap := s.heap.push { cls := .type "tuple", data := .seq items.toList.reverse.toArray } })
    (hsz : items.size ≤ sizeLine) : wpAny (model prog w) A (PySem.getItem (.ref t) (.ref sl)) Q E s := by
  have htake : sizeOk (.seq items.toList.reverse.toArray) := by
    show items.toList.reverse.toArray.size ≤ sizeLine
    rw [List.size_toArray, List.length_reverse, Array.length_toList]
    exact hsz
  obtain ⟨os, hos, hcs, hds⟩ := id hs
  have hTs : s.TypeIs (.ref sl) "slice" := ⟨os, hos, hcs⟩
  unfold PySem.getItem
  try with_reducible refine wpAny_holding ?_
  first | refine wpAny_bind (wpAny_pure ?_) | skip
  refine wpAny_bind (wpAny_sequenceKey ht.typeIs (by decide) ?_)
  refine wpAny_bind (wpAny_callSpecial?_slot (name := Str.ofString "__getitem__") ht.typeIs PyProof.Rows.slot_tuple_getitem
    (wpAny_call_entry PyProof.Rows.slot_tuple_getitem ht.typeIs entry_tuple_getitem ?_ (args_tuple_getitem _ _)))
  show wpAny _ _ (Builtin.Tuple.tupleItemsOf (.ref t) >>= _) _ _ s
  refine wpAny_bind (tupleItemsOf_ ht ?_)
  refine wpAny_bind (wpAny_typeOf hTs ?_)
  rw [if_pos (by decide)]
  refine wpAny_bind (applied hs pl pu ps ?_)
  have hno : ¬ (((((items.size : Int) - 1) == 0) && ((-1 : Int) == 1) && (items.size == items.size)) = true) := by
    intro q
    rw [Bool.and_eq_true, Bool.and_eq_true] at q
    exact absurd (eq_of_beq q.1.2) (by decide)
  show wpAny _ _ (if ((((items.size : Int) - 1) == 0) && ((-1 : Int) == 1) && (items.size == items.size)) = true then _ else _) _ _ s
  rw [if_neg hno, pick]
  first
    | exact wpAny_bind (m := Builtin.Tuple.tupleExact _) (wpAny_newObj_type (wpAny_pure ⟨_, rfl, wpAny_pure h⟩) htake)
    | exact wpAny_bind (m := Builtin.Tuple.tupleExact _) (wpAny_newObj_type (wpAny_bind (wpAny_pure (wpAny_pure ⟨_, rfl, wpAny_pure h⟩))) htake)
    | exact wpAny_bind (wpAny_bind (m := Builtin.Tuple.tupleExact _) (wpAny_newObj_type (wpAny_pure (wpAny_pure ⟨_, rfl, wpAny_pure h⟩)) htake))
    | exact wpAny_bind (wpAny_bind (m := Builtin.Tuple.tupleExact _) (wpAny_newObj_type (wpAny_pure ⟨_, rfl, wpAny_pure h⟩) htake))
end
end RevT
namespace L2
open PySem PySem.Spec PyProof.Rows
def tRevT (K : PySem.W.Frag) (te : TE) : TE := fun σ H Q => te σ H fun x H1 => ∃ a xs, x = .ref a ∧ SqT K H1 a xs ∧ ∀ p, H1 p = none → Q (.ref p) (upd H1 p (.tup xs.reverse))
theorem pe_revT {X : Cx} {e : Expr} {te : TE} {k : Nat} {p1 p2 p3 pos : Pos} (he : PE X e te) : PE X (.Subscript e (.Slice none none (some (.UnaryOp .USub (.Constant (.int 1) k p1) p2)) p3) pos) (tRevT X.K te) := by
  refine ⟨fun pins s σ H Q I h => Subscript_ (thn (he.run pins s σ H _ I h) fun v s1 ⟨x, H1, I1, r1, a, xs, ex, hx, q⟩ => ?_)⟩
  subst ex
  cases r1
  have hst : PO X (some (.UnaryOp .USub (.Constant (.int 1) k p1) p2)) (tPart (tUn (rU fun i => .int (-i)) (tC (.int 1)))) := po_some (pe_un un_neg pe_int)
  refine wpAny_Slice (thn (po_none.run pins s1 σ H1 (fun o H2 => o = none ∧ H2 = H1) I1 ⟨rfl, rfl⟩) fun vl s2 ⟨l, H2, I2, pl, el, e2⟩ => ?_)
  subst el e2
  refine thn (po_none.run pins s2 σ H2 (fun o H3 => o = none ∧ H3 = H2) I2 ⟨rfl, rfl⟩) fun vu s3 ⟨u, H3, I3, pu, eu, e3⟩ => ?_
  subst eu e3
  refine thn (hst.run pins s3 σ H3 (fun o H4 => o = some (-1) ∧ H4 = H3) I3 ⟨1, rfl, -1, rfl, rfl, rfl⟩) fun vs s4 ⟨o, H4, I4, ps, eo, e4⟩ => ?_
  subst eo e4
  have I5 : L2.Inv X pins σ H4 { s4 with heap := s4.heap.push { cls := .type "slice", data := .fields #[vl, vu, vs] } } := I4.kept (t' := s4.toks) fun b ob q => Heap.get?_push_of_some _ q
  obtain ⟨its, r, ht, hz⟩ := I5.tuple hx
  have hlen := r.length
  show wpAny (model X.prog X.w) X.A (subscriptTail e (.Slice none none (some (.UnaryOp .USub (.Constant (.int 1) k p1) p2)) p3) (.ref a) (.ref s4.heap.objs.size)) (EP X pins σ Q) X.xe { s4 with heap := s4.heap.push { cls := .type "slice", data := .fields #[vl, vu, vs] } }
  refine tail_any (ops := [.ref a, .ref s4.heap.objs.size]) ht.typeIs (PyProof.Rows.slot_tuple_getitem.lookup) ?_ (by with_unfolding_all rfl)
  refine RevT.getItem ht (Heap.IsSliceOf.new _ vl vu vs) pl pu ps ?_ (by rw [List.size_toArray]; omega)
  refine ⟨.ref _, _, I5.laid (t' := s4.toks) (o := .tup xs.reverse) (fun b ob q => Heap.get?_push_of_some _ q) (Nat.le_refl _) ?_, rfl, q _ (I5.hok.fresh (Nat.le_refl _))⟩
  exact ⟨by rw [List.length_reverse]; exact hz, _, r.reverse, IsTup.new _ _⟩
end L2

set_option Elab.async false
set_option linter.all false
set_option maxRecDepth 100000
set_option maxHeartbeats 4000000
namespace DL
open PySem PySem.Spec PyProof.Rows L2 STx OrdS

/-! ### built-ins' names -/
theorem bb_len : bootBuiltins "len" = some (.builtin "len") := by decide +kernel
theorem bb_all : bootBuiltins "all" = some (.builtin "all") := by decide +kernel
theorem bb_any : bootBuiltins "any" = some (.builtin "any") := by decide +kernel
theorem bb_sorted : bootBuiltins "sorted" = some (.builtin "sorted") := by decide +kernel
theorem bb_min : bootBuiltins "min" = some (.builtin "min") := by decide +kernel
theorem bb_abs : bootBuiltins "abs" = some (.builtin "abs") := by decide +kernel
theorem bb_sum : bootBuiltins "sum" = some (.builtin "sum") := by decide +kernel
theorem bb_isinstance : bootBuiltins "isinstance" = some (.builtin "isinstance") := by decide +kernel
theorem bb_int : bootBuiltins "int" = some (.type "int") := by decide +kernel
theorem bb_bool : bootBuiltins "bool" = some (.type "bool") := by decide +kernel
theorem bb_str : bootBuiltins "str" = some (.type "str") := by decide +kernel
theorem bb_tuple : bootBuiltins "tuple" = some (.type "tuple") := by decide +kernel
theorem bb_list : bootBuiltins "list" = some (.type "list") := by decide +kernel
theorem bb_set : bootBuiltins "set" = some (.type "set") := by decide +kernel

/-! ### the ways out of a body -/
section
variable {P : Program} {w : World} {K : PySem.W.Frag} {mg : Str → Option Value} {base : Heap} {N : List Str} {x : Str} {st : Stmt} {f : Addr} {cdv : Value} {A : Around} {outer : List Env} {s : Shared} {H : Hp} {E : XK}
theorem takeB : Takes (bodyCx P w K mg base N x st f cdv A outer s H E) (fun cls d _ H => E cls d H) := takes_of (E := E) rfl rfl rfl rfl
theorem passB : Passes (L2.CX P w) (bodyCx P w K mg base N x st f cdv A outer s H E) E := passes_call takeB fun _ _ _ _ h => h
theorem ownB : PassesOwn (model P w) (bodyCx P w K mg base N x st f cdv A outer s H E).A (bodyCx P w K mg base N x st f cdv A outer s H E).env (bodyCx P w K mg base N x st f cdv A outer s H E).xe := passes_of (X := bodyCx P w K mg base N x st f cdv A outer s H E) rfl
end

/-! ### t[::-1], xs[::-1] -/
section
variable {X : Cx} {E : XK} {e : Expr} {m : ME} {k : Nat} {p1 p2 p3 pos : Pos}
def dRevT : D → T D
  | .tup xs => T.pure (.tup xs.reverse)
  | _ => T.fail
def dRevL : D → T D
  | .lst xs => T.pure (.lst xs.reverse)
  | _ => T.fail
theorem x_revT (h : XB X E e m) : XE X E (.Subscript e (.Slice none none (some (.UnaryOp .USub (.Constant (.int 1) k p1) p2)) p3) pos) (fun g => T.bind (m g) dRevT) := by
  refine pe_w (pe_revT h) fun σ H Q ⟨g, S, H0, Qd, Ed, rel, hm, hq, he⟩ => ?_
  refine ⟨g, S, H0, _, Ed, rel, hm, fun d S1 hf v H1 H01 st1 gr1 r1 => ?_, he⟩
  unfold dRevT at hf
  split at hf
  · obtain ⟨p, xs, rfl, h1, r⟩ := r1.tup
    refine ⟨p, xs, rfl, sqT_sub st1.sub h1, fun q hn => ?_⟩
    obtain ⟨st2, gr2⟩ := alloc_f st1 hn (.tup xs.reverse)
    exact hq _ S1 hf _ _ _ st2 (gr1.trans st1 gr2) (.tup (.of upd_same) (r.reverse.sub gr2.sub))
  · exact hf.elim
theorem x_revL (h : XB X E e m) : XN X E (.Subscript e (.Slice none none (some (.UnaryOp .USub (.Constant (.int 1) k p1) p2)) p3) pos) (fun g => T.bind (m g) dRevL) := by
  refine pe_w (pe_revL h) fun σ H Q ⟨g, S, H0, Qd, Ed, rel, hm, hq, he⟩ => ?_
  refine ⟨g, S, H0, _, Ed, rel, hm, fun d S1 hf v H1 H01 st1 gr1 r1 => ?_, he⟩
  unfold dRevL at hf
  split at hf
  · obtain ⟨p, xs, rfl, h1, _, r⟩ := r1.lst st1
    refine ⟨p, xs, rfl, .of h1, fun q hn => ?_⟩
    obtain ⟨st2, gr2, n0, nS⟩ := alloc_n st1 hn (.lst xs.reverse)
    exact hq _ S1 hf _ _ _ st2 (gr1.trans st1 gr2) (.inl ⟨q, _, _, rfl, rfl, gr1.fresh st1 hn, upd_same, n0, nS, r.reverse⟩)
  · exact hf.elim
end

/-! ### what the head tells -/
structure Hd (fa : List He.Fa) (fn : List He.DefD) (ex : PySem.W.Frag → Bool) (K : PySem.W.Frag) (mg : Str → Option Value) : Prop where
  h : ∃ h : Heap, K.In h ∧ h.Ns mainGlobals mg
  c : He.SaysD fa fn K
  x : ex K = true
section
variable {fa : List He.Fa} {fn : List He.DefD} {ex : PySem.W.Frag → Bool} {K : PySem.W.Frag} {mg : Str → Option Value} (W : Hd fa fn ex K mg) (i : Nat)
include W
theorem Hd.free {x : Str} (h : fa[i]? = some (.free x)) : mg x = none := let ⟨_, X, G⟩ := W.h; He.free_ok X G (W.c.fact i h)
theorem Hd.glo {x : Str} (h : fa[i]? = some (.glo x)) : mg x = some (.ref (He.ga K x)) := let ⟨_, X, G⟩ := W.h; He.glo_ok X G (W.c.fact i h)
theorem Hd.str {x z : Str} (h : fa[i]? = some (.str x z)) : ∃ t, mg x = some (.str z t) := let ⟨_, X, G⟩ := W.h; He.str_ok X G (W.c.fact i h)
theorem Hd.int {x : Str} {z : Int} (h : fa[i]? = some (.int x z)) : ∃ t, mg x = some (.int z t) := let ⟨_, X, G⟩ := W.h; He.int_ok X G (W.c.fact i h)
theorem Hd.exc {x : Str} (j : Nat) (h : fa[i]? = some (.glo x)) (h2 : fa[j]? = some (.exc x)) : ExcF K mg x := ⟨W.glo i h, W.c.fact j h2⟩
theorem Hd.def_ {x : Str} {st : Stmt} (j : Nat) (h : fa[i]? = some (.glo x)) (h2 : fn[j]? = some ⟨(x, none), x, x, defArgs st, defBody st, defScope st, [], []⟩) : DefF K mg x st := ⟨W.c.def_ j h2, W.glo i h⟩
theorem Hd.word {x a : Str} {st : Stmt} {Ng : List Str} (j : Nat) (h : fa[i]? = some (.glo x)) (h2 : fn[j]? = some ⟨(x, none), x, x, defArgs st, defBody st, defScope st, [], []⟩)
    (hb : ∀ (kV doc pm : Value) (an : Option Addr) (cdv ct : Value) (us : List Value), us.length = ([a] : List Str).length → bindArgs (PySem.W.fnOf x x (defArgs st) (defBody st) (defScope st) .none kV doc pm an cdv ct) ⟨us, []⟩ = pure (([a] : List Str).zip us))
    (sc : FnScope Ng [a] (defScope st)) (n0 : Ng[0]? = some a) (vs : Vis (defScope st) a) (da : (a == ("__debug__" : Str)) = false) (ca : (a == ("__classdict__" : Str)) = false) : ∃ fd, WordDef K mg x a st Ng fd :=
  let ⟨fd, F⟩ := W.c.def_ j h2
  ⟨fd, W.glo i h, F, FunD.bindsN F hb, sc, n0, vs, da, ca⟩
end
section
variable {X : Cx} {E : XK} {pos : Pos}
theorem x_gstr' {x z : Str} (hm : ∃ t, X.mg x = some (.str z t)) (hg : Gl X x := by rfl) (hd : (x == ("__debug__" : Str)) = false := by decide) : XE X E (.Name x pos) (fun _ => T.pure (.str z)) := let ⟨_, h⟩ := hm; x_gstr h hg hd
theorem x_gint' {x : Str} {z : Int} (hm : ∃ t, X.mg x = some (.int z t)) (hg : Gl X x := by rfl) (hd : (x == ("__debug__" : Str)) = false := by decide) : XE X E (.Name x pos) (fun _ => T.pure (.int z)) := let ⟨_, h⟩ := hm; x_gint h hg hd
end
/-! ### errors told apart: a test of the written part -/
def excCB (K : PySem.W.Frag) (D : Addr) : Bool := He.eqO (PySem.W.findIn K (.ref D) "__getattribute__") (some (some (.builtin "BaseException.__getattribute__"))) && (He.eqO (PySem.W.findIn K (.ref D) "__getattr__") (some none) && (decide (PySem.W.subIn K (.ref D) (.type "BaseException") = some true) && (PySem.W.hasDictIn K D &&
  (He.eqO (PySem.W.findIn K (.ref D) "__class__") (some (some (.builtin "object.__class__"))) && (He.eqO (PySem.W.specialIn K (.builtin "object.__class__") "__get__") (some (some (.builtin "getset_descriptor.__get__"))) && (decide (PySem.W.takesIn K (.builtin "object.__class__") = some true) && decide (PySem.W.mroIn K D (.type "object") = some true)))))))
theorem excCB_ok {K : PySem.W.Frag} {D : Addr} (h : excCB K D = true) : ExcC K D := by
  obtain ⟨h1, h⟩ := He.ba h
  obtain ⟨h2, h⟩ := He.ba h
  obtain ⟨h3, h⟩ := He.ba h
  obtain ⟨h4, h⟩ := He.ba h
  obtain ⟨h5, h⟩ := He.ba h
  obtain ⟨h6, h⟩ := He.ba h
  obtain ⟨h7, h8⟩ := He.ba h
  exact ⟨He.eqO_ok h1, He.eqO_ok h2, of_decide_eq_true h3, h4, He.eqO_ok h5, He.eqO_ok h6, of_decide_eq_true h7, of_decide_eq_true h8⟩
def excTB (M : Str) (ns : List Str) (K : PySem.W.Frag) : Bool := ns.all fun x => excCB K (He.ga K x) && (decide (PySem.W.kitOne K (.ref (He.ga K x)) (.ref (He.ga K M)) = some true) && ns.all fun y => decide (PySem.W.exmOne K (.ref (He.ga K x)) (.ref (He.ga K y)) = some (decide (x = y))))
theorem excTB_ok {K : PySem.W.Frag} {M : Str} {ns : List Str} (h : excTB M ns K = true) : ExcT K M ns := by
  have k := List.all_eq_true.mp h
  refine ⟨fun x hx => excCB_ok (He.ba (k x hx)).1, fun x hx => of_decide_eq_true (He.ba (He.ba (k x hx)).2).1, fun x hx y hy => of_decide_eq_true (List.all_eq_true.mp (He.ba (He.ba (k x hx)).2).2 y hy)⟩
end DL

set_option Elab.async false
set_option linter.all false
set_option maxRecDepth 100000
set_option maxHeartbeats 4000000
namespace DL
open PySem PySem.Spec PyProof.Rows L2 STx OrdS

/-! ### xs * n -/
def dRepL : D → D → T D
  | .lst xs, .int k => T.bind (dNeed (-(2 ^ 63) ≤ k ∧ k < 2 ^ 63 ∧ xs.length * k.toNat ≤ sizeLine)) fun _ => T.pure (.lst (List.replicate k.toNat xs).flatten)
  | _, _ => T.fail
theorem Rps.rep {K : PySem.W.Frag} {H : Hp} {xs : List V} {ds : List D} (r : Rps K H xs ds) : ∀ n, Rps K H (List.replicate n xs).flatten (List.replicate n ds).flatten
  | 0 => .nil
  | n + 1 => by
    rw [List.replicate_succ, List.replicate_succ, List.flatten_cons, List.flatten_cons]
    exact r.append (Rps.rep r n)
section
variable {K : PySem.W.Frag}
theorem s_repL : OpS K (RN K) rRep dRepL := by
  intro v w a b H H0 S Qd Ed Q st ra rb hf hq
  unfold dRepL at hf
  split at hf
  · obtain ⟨⟨h1, h2, h3⟩, hf⟩ := hf
    obtain ⟨p, xs, rfl, e1, e2, r⟩ := ra.lst st
    cases rb.int
    refine ⟨p, _, xs, rfl, rfl, e1, h1, h2, by rw [r.length]; exact h3, fun q hn => ?_⟩
    obtain ⟨st2, gr2, n0, nS⟩ := alloc_n st hn (.lst (List.replicate _ xs).flatten)
    exact hq _ S hf _ _ _ st2 gr2 (.inl ⟨q, _, _, rfl, rfl, hn, upd_same, n0, nS, r.rep _⟩)
  · exact hf.elim
end
section
variable {X : Cx} {E : XK} {a b : Expr} {pos : Pos} {ma mb : ME}
theorem x_repL (ha : XB X E a ma) (hb : XB X E b mb) : XN X E (.BinOp a .Mult b pos) (mb2 dRepL ma mb) := x_op back_N op_rep s_repL ha hb
end

/-! ### a call of a name that holds one of several defs -/
def pickV (fs : List (Str × (List D → T D))) : D → Option (List D → T D)
  | .glo n => fs.lookup n
  | _ => none
inductive TabV (X : Cx) (j a : Nat) : List (Str × (List D → T D)) → Prop
  | nil : TabV X j a []
  | cons {i : Nat} {n : Str} {ps : List Str} {F : List D → T D} {fs : List (Str × (List D → T D))} (O : Ok X.prog X.w X.K X.mg X.base i n ps F) (hi : i ≤ j) (hl : ps.length = a) (r : TabV X j a fs) : TabV X j a ((n, F) :: fs)
theorem TabV.get {X : Cx} {j a : Nat} {n : Str} {F : List D → T D} : ∀ {fs : List (Str × (List D → T D))}, TabV X j a fs → fs.lookup n = some F → ∃ ps, Ok X.prog X.w X.K X.mg X.base j n ps F ∧ ps.length = a
  | _, .nil, h => by cases h
  | _, .cons (n := m) (ps := ps) (F := G) O hi hl r, h => by
    by_cases e : n = m
    · subst e
      simp [List.lookup] at h
      subst h
      exact ⟨ps, O.mono hi, hl⟩
    · have e' : (n == m) = false := by simpa using e
      simp only [List.lookup, e'] at h
      exact r.get h
section
variable {X : Cx} {j k a : Nat} {E : XK} {x : Str} {p pos : Pos} {e : Expr} {es : List Expr} {m : MA} {fs : List (Str × (List D → T D))}
theorem x_callV (i : Nat) (V : TabV X j a fs) (hr : Room k X.A) (hj : j ≤ k) (hx : Passes (L2.CX X.prog X.w) X E) (ha : XA X E (e :: es) m) (hN : X.N[i]? = some x := by rfl) (hv : Vis X.env.scope x := by first | exact Or.inl rfl | exact Or.inr (Or.inl rfl) | exact Or.inr (Or.inr rfl))
    (hdb : (x == ("__debug__" : Str)) = false := by decide) (hcd : (x == ("__classdict__" : Str)) = false := by decide)
    (he : starEach (e :: es) X.env = (false, eval e X.env) :: starEach es X.env := by rfl) (hpl : (backTo pos (starEach es X.env)).any (·.1) = false := by rfl) :
    XE X E (.Call (.Name x p) (e :: es) [] pos) (fun g => T.bind (getv g i) fun f => dOpt (pickV fs f) fun F => T.bind (m g) fun ds => T.bind (dNeed (ds.length = a)) fun _ => F ds) := by
  refine ⟨fun pins s σ H Q I h => ?_⟩
  obtain ⟨g, S, H0, Qd, Ed, rel, hm, hq, hexc⟩ := h
  obtain ⟨d, hg, hm⟩ := getv_inv hm
  obtain ⟨v, e1, rv⟩ := rel.sl i _ hg
  obtain ⟨F, hF, hm2⟩ := dOpt_inv hm
  cases d with
  | glo n =>
    cases rv
    obtain ⟨ps, O, hl⟩ := V.get hF
    obtain ⟨fd, G, b, _⟩ := O.ex
    refine (pe_callL (i := i) (dvs := []) (G.mono hj) hr hN hv O.kp b .nil hx ha hdb hcd he hpl).run pins s σ H Q I ⟨e1, g, S, H0, _, Ed, rel, hm2, fun ds S1 hf vs H1 H01 st1 gr1 r1 => ?_, hexc⟩
    obtain ⟨hn, hf⟩ := hf
    rw [List.append_nil]
    exact ⟨ds, S1, H01, Qd, Ed, st1, r1, by rw [hn, hl], hf, fun d S' q v H' H0' st' gr' rv => hq d S' q v H' H0' st' (gr1.trans st1 gr') rv, fun x S' ex => (hexc x S' ex).grow st1 gr1⟩
  | _ => cases hF
end
end DL

set_option Elab.async false
set_option linter.all false
set_option maxRecDepth 100000
set_option maxHeartbeats 4000000
namespace DL
open PySem PySem.Spec PyProof.Rows L2 STx OrdS

/-! ### y = [..], on one line -/
theorem lf_stay {K : PySem.W.Frag} {E : XK} {m : ME} {σ : L2.St} {H : Hp} {Q : VK} (h : lf K E (RF K) m σ H Q) : lf K E (RN K) m σ H Q := by
  obtain ⟨g, S, H0, Qd, Ed, rel, hm, hq, he⟩ := h
  refine ⟨g, S, H0, Qd, Ed, rel, hm, fun d S' q v H' H0' st gr r => ?_, he⟩
  rcases r with ⟨p, xs, ds, rfl, rfl, h0, h1, h2, h3, r⟩ | ⟨p, kvs, ks, ds, rfl, rfl, h0, h1, h2, h3, k, r⟩
  · obtain ⟨st', s0⟩ := freeze st h1 h2 h3
    refine hq _ S' q _ H' _ st' ⟨gr.keep, fun a ha n => ?_, fun a o e => s0 a o (gr.sub a o e), gr.more, gr.new⟩ (.lst upd_same (r.sub s0))
    have hne : a ≠ p := fun z => n (by rw [z]; exact h0)
    rw [upd_ne hne]
    exact gr.old a ha n
  · obtain ⟨st', s0⟩ := freeze st h1 h2 h3
    refine hq _ S' q _ H' _ st' ⟨gr.keep, fun a ha n => ?_, fun a o e => s0 a o (gr.sub a o e), gr.more, gr.new⟩ (.dic upd_same k (r.sub s0))
    have hne : a ≠ p := fun z => n (by rw [z]; exact h0)
    rw [upd_ne hne]
    exact gr.old a ha n
section
variable {X : Cx} {E : XK} {b : Bs}
theorem s_setLc (i : Nat) {y : Str} {py : Pos} {elt tg iter : Expr} {ifs : List Expr} {scope : Scope} (own : List (Str × Nat)) {pos spos : Pos} {ms : MI} {is : List Nat} {t : TG} {f : D → Sg → T Sg} {mt : MT} {me : ME} (hc : X.calm = true) (hN : X.N.Nodup)
    (hsw : swapsWith (.ListComp elt [⟨tg, iter, ifs, 0⟩] scope pos) (some (.Name y py)) spos.line X.env = pure true) (hi : XI X E tg iter ms) (ok : blkC X.N X.env.scope scope own = true)
    (hs : TgS X.K is t f) (his : ∀ i ∈ is, i ∈ own.map (·.2))
    (hg : ∀ (s : Shared) (H : Hp) (C : Addr) (cl : List (Str × Addr)) (fp : List Addr), PG (X.blk s H scope (compEnvC scope cl C X.env) fp) tg t) (ht : ∀ (s : Shared) (H : Hp) (C : Addr) (cl : List (Str × Addr)) (fp : List Addr), PTs (X.blk s H scope (compEnvC scope cl C X.env) fp) ifs (lt X.K E0 mt))
    (he : ∀ (s : Shared) (H : Hp) (C : Addr) (cl : List (Str × Addr)) (fp : List Addr), PE (X.blk s H scope (compEnvC scope cl C X.env) fp) elt (lf X.K E0 (RF X.K) me)) (hy : X.N[i]? = some y := by rfl) (hyl : X.env.scope.names.lookup y = some .local := by rfl) (hf : ∀ x, foldedSetIterable iter X.env x = pure x := by intro _; rfl) :
    XS X E b (.Assign [.Name y py] (.ListComp elt [⟨tg, iter, ifs, 0⟩] scope pos) spos) (setV (dLc ms (own.map (·.2)) f mt me) i) :=
  ps_w (ps_setLc hc hN hy hyl hsw hi (blkOk_by ok) hg ht he hf) (asg_v fun _ _ _ h => lc_lf hs his (fun _ _ _ q => q) (fun _ _ _ q => q) (lf_stay h))
theorem s_setLcN (i : Nat) {y : Str} {py : Pos} {elt tg iter : Expr} {ifs : List Expr} {scope : Scope} (own : List (Str × Nat)) {pos spos : Pos} {ms : MI} {is : List Nat} {t : TG} {f : D → Sg → T Sg} {mt : MT} {me : ME} (hc : X.calm = true) (hN : X.N.Nodup)
    (hsw : swapsWith (.ListComp elt [⟨tg, iter, ifs, 0⟩] scope pos) (some (.Name y py)) spos.line X.env = pure true) (hi : XI X E tg iter ms) (ok : blkC X.N X.env.scope scope own = true)
    (hs : TgS X.K is t f) (his : ∀ i ∈ is, i ∈ own.map (·.2))
    (hg : ∀ (s : Shared) (H : Hp) (C : Addr) (cl : List (Str × Addr)) (fp : List Addr), PG (X.blk s H scope (compEnvC scope cl C X.env) fp) tg t) (ht : ∀ (s : Shared) (H : Hp) (C : Addr) (cl : List (Str × Addr)) (fp : List Addr), PTs (X.blk s H scope (compEnvC scope cl C X.env) fp) ifs (lt X.K E0 mt))
    (he : ∀ (s : Shared) (H : Hp) (C : Addr) (cl : List (Str × Addr)) (fp : List Addr), PE (X.blk s H scope (compEnvC scope cl C X.env) fp) elt (lf X.K E0 (RF X.K) me)) (hy : X.N[i]? = some y := by rfl) (hyl : X.env.scope.names.lookup y = some .local := by rfl) (hf : ∀ x, foldedSetIterable iter X.env x = pure x := by intro _; rfl) :
    XS X E b (.Assign [.Name y py] (.ListComp elt [⟨tg, iter, ifs, 0⟩] scope pos) spos) (setO (dLc ms (own.map (·.2)) f mt me) i) :=
  ps_w (ps_setLc hc hN hy hyl hsw hi (blkOk_by ok) hg ht he hf) (asg_o fun _ _ _ h => lc_lf hs his (fun _ _ _ q => q) (fun _ _ _ q => q) h)
end
end DL

set_option Elab.async false
set_option linter.all false
set_option maxRecDepth 100000
set_option maxHeartbeats 4000000
namespace DL
open PySem PySem.Spec PyProof.Rows L2 STx OrdS

/-! ### what is asked of a data program -/
/-- it returns v and leaves the store -/
def Ret {α : Type} (m : T α) (S : Sto) (v : α) : Prop := ∀ (Q : α → Sto → Prop) (E : Xn → Sto → Prop), Q v S → m S Q E
/-- it returns one of these and leaves the store -/
def Rets {α : Type} (m : T α) (S : Sto) (P : α → Prop) : Prop := ∀ (Q : α → Sto → Prop) (E : Xn → Sto → Prop), (∀ v, P v → Q v S) → m S Q E
theorem Ret.rets {α : Type} {m : T α} {S : Sto} {v : α} (h : Ret m S v) {P : α → Prop} (hp : P v) : Rets m S P := fun Q E q => h Q E (q v hp)
theorem ite_i {α : Type} {k : Bool} {a b : T α} {S : Sto} {Q : α → Sto → Prop} {E : Xn → Sto → Prop} (h1 : k = true → a S Q E) (h2 : k = false → b S Q E) : T.ite k a b S Q E := by
  cases k
  · exact T.iteF_ (h2 rfl)
  · exact T.iteT_ (h1 rfl)
theorem ite_t {α : Type} {k : Bool} {a b : T α} {S : Sto} {Q : α → Sto → Prop} {E : Xn → Sto → Prop} (hk : k = true) (h1 : a S Q E) : T.ite k a b S Q E := by subst hk; exact T.iteT_ h1
theorem ite_f {α : Type} {k : Bool} {a b : T α} {S : Sto} {Q : α → Sto → Prop} {E : Xn → Sto → Prop} (hk : k = false) (h1 : b S Q E) : T.ite k a b S Q E := by subst hk; exact T.iteF_ h1

theorem opt_s {α β : Type} {o : Option α} {f : α → T β} {a : α} {S : Sto} {Q : β → Sto → Prop} {E : Xn → Sto → Prop} (h : o = some a) (k : f a S Q E) : dOpt o f S Q E := by subst h; exact k
/-! ### loops -/
theorem for_i {f : D → Sg → T Sg} {body : MS} {Q : Out → Sto → Prop} {E : Xn → Sto → Prop} (I : List D → Sg → Sto → Prop)
    (hs : ∀ d r g S, I (d :: r) g S → ∀ Q' : Out → Sto → Prop, (∀ g2 S2, I r g2 S2 → Q' (.nx g2) S2) → (∀ g2 S2, I r g2 S2 → Q' (.ct g2) S2) → (∀ g2 S2, Q (.nx g2) S2 → Q' (.bk g2) S2) → (∀ d S2, Q (.rt d) S2 → Q' (.rt d) S2) → f d g S (fun g1 S1 => body g1 S1 Q' E) E)
    (he : ∀ g S, I [] g S → Q (.nx g) S) : ∀ (ds : List D) (g : Sg) (S : Sto), I ds g S → forT f body ds g S Q E
  | [], g, S, h => he g S h
  | d :: r, g, S, h => hs d r g S h _ (fun g2 S2 h2 => for_i I hs he r g2 S2 h2) (fun g2 S2 h2 => for_i I hs he r g2 S2 h2) (fun g2 S2 h2 => h2) fun d S2 h2 => h2
/-! ### comprehensions -/
theorem lc_f {f : D → Sg → T Sg} {t : MT} {e : ME} {g : Sg} {S : Sto} (G : D → Sg) (p : D → Bool) (v : D → D) : ∀ {ds : List D}, (∀ d ∈ ds, Ret (f d g) S (G d)) → (∀ d ∈ ds, Ret (t (G d)) S (p d)) → (∀ d ∈ ds, p d = true → Ret (e (G d)) S (v d)) → Ret (lcT f t e g ds) S ((ds.filter p).map v)
  | [], _, _, _ => fun Q E h => h
  | d :: r, h1, h2, h3 => fun Q E h => by
    have ih := lc_f G p v (ds := r) (fun d hd => h1 d (List.mem_cons_of_mem _ hd)) (fun d hd => h2 d (List.mem_cons_of_mem _ hd)) fun d hd => h3 d (List.mem_cons_of_mem _ hd)
    refine h1 d List.mem_cons_self _ _ (h2 d List.mem_cons_self _ _ ?_)
    cases hp : p d with
    | true =>
      rw [List.filter_cons_of_pos hp, List.map_cons] at h
      exact T.iteT_ (h3 d List.mem_cons_self hp _ _ (ih _ _ h))
    | false =>
      rw [List.filter_cons_of_neg (by rw [hp]; exact Bool.false_ne_true)] at h
      exact T.iteF_ (ih _ _ h)
theorem lc_n {i : Nat} {t : MT} {e : ME} {g : Sg} {S : Sto} (p : D → Bool) (v : D → D) {ds : List D} (h2 : ∀ d ∈ ds, Ret (t (g.set i (.va d))) S (p d)) (h3 : ∀ d ∈ ds, p d = true → Ret (e (g.set i (.va d))) S (v d)) : Ret (lcT (gN i) t e g ds) S ((ds.filter p).map v) :=
  lc_f (fun d => g.set i (.va d)) p v (fun _ _ _ _ h => h) h2 h3
theorem lc_m {i : Nat} {e : ME} {g : Sg} {S : Sto} (v : D → D) {ds : List D} (h3 : ∀ d ∈ ds, Ret (e (g.set i (.va d))) S (v d)) : Ret (lcT (gN i) tY e g ds) S (ds.map v) := by
  have h := lc_n (t := tY) (S := S) (ds := ds) (fun _ => true) v (fun d _ Q E h => h) fun d hd _ => h3 d hd
  rwa [List.filter_eq_self.mpr fun _ _ => rfl] at h
theorem lc_sub {f : D → Sg → T Sg} {t : MT} {e : ME} {g : Sg} {S : Sto} (G : D → Sg) (v : D → D) : ∀ {ds : List D}, (∀ d ∈ ds, Ret (f d g) S (G d)) → (∀ d ∈ ds, Rets (t (G d)) S fun _ => True) → (∀ d ∈ ds, Ret (e (G d)) S (v d)) → Rets (lcT f t e g ds) S fun xs => ∃ l : List D, l.Sublist ds ∧ xs = l.map v
  | [], _, _, _ => fun Q E h => h [] ⟨[], List.Sublist.refl _, rfl⟩
  | d :: r, h1, h2, h3 => fun Q E h => by
    have ih := lc_sub G v (ds := r) (fun d hd => h1 d (List.mem_cons_of_mem _ hd)) (fun d hd => h2 d (List.mem_cons_of_mem _ hd)) fun d hd => h3 d (List.mem_cons_of_mem _ hd)
    refine h1 d List.mem_cons_self _ _ (h2 d List.mem_cons_self _ _ fun k _ => ?_)
    cases k with
    | true => exact T.iteT_ (h3 d List.mem_cons_self _ _ (ih _ _ fun xs ⟨l, hl, e⟩ => h _ ⟨d :: l, hl.cons₂ d, by rw [e]; rfl⟩))
    | false => exact T.iteF_ (ih _ _ fun xs ⟨l, hl, e⟩ => h _ ⟨l, hl.cons d, e⟩)
def pairG (i j : Nat) (g : Sg) : D → Sg
  | .tup [a, b] => (g.set i (.va a)).set j (.va b)
  | _ => g
theorem pair_ret {i j : Nat} {g : Sg} {S : Sto} {a b : D} : Ret (gT2 i j (.tup [a, b]) g) S (pairG i j g (.tup [a, b])) := fun Q E h => h
theorem lc_2 {i j : Nat} {t : MT} {e : ME} {g : Sg} {S : Sto} (p : D → Bool) (v : D → D) {ds : List D} (hp : ∀ d ∈ ds, ∃ a b, d = .tup [a, b]) (h2 : ∀ d ∈ ds, Ret (t (pairG i j g d)) S (p d)) (h3 : ∀ d ∈ ds, p d = true → Ret (e (pairG i j g d)) S (v d)) : Ret (lcT (gT2 i j) t e g ds) S ((ds.filter p).map v) :=
  lc_f (pairG i j g) p v (fun d hd => by obtain ⟨a, b, rfl⟩ := hp d hd; exact pair_ret) h2 h3
theorem lc_2m {i j : Nat} {e : ME} {g : Sg} {S : Sto} (v : D → D) {ds : List D} (hp : ∀ d ∈ ds, ∃ a b, d = .tup [a, b]) (h3 : ∀ d ∈ ds, Ret (e (pairG i j g d)) S (v d)) : Ret (lcT (gT2 i j) tY e g ds) S (ds.map v) := by
  have h := lc_2 (t := tY) (S := S) (ds := ds) (fun _ => true) v hp (fun d _ Q E h => h) fun d hd _ => h3 d hd
  rwa [List.filter_eq_self.mpr fun _ _ => rfl] at h
/-! ### sizes -/
theorem sz {n : Nat} (h : n ≤ 16777216) : n ≤ sizeLine := by rw [sizeLine_eq]; exact h
/-! ### sources -/
theorem ix_src0 {a : Addr} {S : Sto} {Q : D → Sto → Prop} {E : Xn → Sto → Prop} (h : S a = some .src) (k : ∀ c : Int, 0 ≤ c → c < 2 ^ srcBits → Q (.int c) S) : dIx (.ref a) (.int 0) S Q E := by
  show dIxR a 0 S Q E
  unfold dIxR
  rw [h]
  exact .inl ⟨rfl, k⟩
theorem ix_src1 {a : Addr} {S : Sto} {Q : D → Sto → Prop} {E : Xn → Sto → Prop} (h : S a = some .src) (k : ∀ c : Int, 0 ≤ c → c < 2147483648 → Q (.int c) S) : dIx (.ref a) (.int 1) S Q E := by
  show dIxR a 1 S Q E
  unfold dIxR
  rw [h]
  exact .inr ⟨rfl, k⟩
theorem put_src0 {a : Addr} {S : Sto} {c : Int} {g : Sg} {Q : Out → Sto → Prop} {E : Xn → Sto → Prop} (h : S a = some .src) (c0 : 0 ≤ c) (c1 : c < 2 ^ srcBits) (k : Q (.nx g) S) : dPut (.ref a) (.int 0) (.int c) g S Q E := by
  show dPutR a 0 (.int c) g S Q E
  unfold dPutR
  rw [h]
  exact .inl ⟨rfl, c, rfl, c0, c1, k⟩
theorem put_src1 {a : Addr} {S : Sto} {c : Int} {g : Sg} {Q : Out → Sto → Prop} {E : Xn → Sto → Prop} (h : S a = some .src) (c0 : 0 ≤ c) (c1 : c < 2147483648) (k : Q (.nx g) S) : dPut (.ref a) (.int 1) (.int c) g S Q E := by
  show dPutR a 1 (.int c) g S Q E
  unfold dPutR
  rw [h]
  exact .inr ⟨rfl, c, rfl, c0, c1, k⟩
theorem bits_lt {z : Int} {n : Nat} (h : Builtin.Int.intBits z ≤ n) : z.natAbs < 2 ^ n := by
  unfold Builtin.Int.intBits at h
  by_cases hz : z = 0
  · subst hz; exact Nat.pow_pos (by decide)
  · rw [if_neg (by simpa using hz)] at h
    have hn : z.natAbs ≠ 0 := by omega
    exact (Nat.log2_lt hn).mp (by omega)
theorem src_lt {z : Int} (h : Builtin.Int.intBits z ≤ 1048576) : (if z < 0 then -z else z) < 2 ^ srcBits ∧ 0 ≤ (if z < 0 then -z else z) := by
  have h3 : z.natAbs < 2 ^ srcBits := bits_lt (Nat.le_trans h (by unfold srcBits; omega))
  have e : (if z < 0 then -z else z) = (z.natAbs : Int) := by split <;> omega
  rw [e]
  exact ⟨by exact_mod_cast h3, Int.natCast_nonneg _⟩
end DL

set_option Elab.async false
set_option linter.all false
set_option maxRecDepth 100000
set_option maxHeartbeats 4000000
namespace DL
open PySem PySem.Spec PyProof.Rows L2 STx OrdS

/-! ### a, b = e1, [..]: the second one's own -/
section
variable {X : Cx} {E : XK} {b : Bs}
def parON (i j : Nat) (m1 m2 : ME) : MS := fun g => T.bind (m1 g) fun x => T.bind (m2 g) fun y => ownD (g.set i (.va x)) j y
theorem s_parN (i j : Nat) {x y : Str} {e1 e2 : Expr} {m1 m2 : ME} {px py pt pos : Pos} {kt k2 pt2} (hc : X.calm = true) (hN : X.N.Nodup) (h1 : XE X E e1 m1) (h2 : XN X E e2 m2) (hi : X.N[i]? = some x := by rfl) (hj : X.N[j]? = some y := by rfl) (hij : i ≠ j := by decide)
    (hx : X.env.scope.names.lookup x = some .local := by rfl) (hy : X.env.scope.names.lookup y = some .local := by rfl)
    (hw : swappedStores [.Tuple [.Name x px, .Name y py] kt pt] (.Tuple [e1, e2] k2 pt2) X.env = pure (some [x, y]) := by rfl)
    (hs : swapsWithSole [.Tuple [.Name x px, .Name y py] kt pt] (.Tuple [e1, e2] k2 pt2) pos.line X.env = pure false := by rfl)
    (hs1 : starEach [e1, e2] X.env = (false, eval e1 X.env) :: starEach [e2] X.env := by rfl) (hs2 : starEach [e2] X.env = (false, eval e2 X.env) :: starEach [] X.env := by rfl) :
    XS X E b (.Assign [.Tuple [.Name x px, .Name y py] kt pt] (.Tuple [e1, e2] k2 pt2) pos) (parON i j m1 m2) := by
  refine ps_w (ps_par hc hN hi hj hij hx hy (pa_cons h1 (pa_cons h2 pa_nil hs2) hs1) hw hs) fun D σ H ⟨g, S, H0, Qd, Ed, r, hm, hq, he⟩ => ?_
  refine ⟨g, S, H0, _, Ed, r.rel, hm, fun d S1 hf v H1 H01 st1 gr1 r1 => ?_, exb r he⟩
  have g1 := r.grow st1 gr1
  refine ⟨g, S1, H01, _, Ed, g1.rel, hf, fun d2 S2 hf2 w H2 H02 st2 gr2 r2 => ?_, exb g1 he⟩
  refine ⟨v, w, rfl, ?_⟩
  have g2 := g1.set r1 i
  have sb : Sub H0 H02 := fun a o q => gr2.sub a o (gr1.sub a o q)
  rcases r2 with ⟨p, xs, ds, rfl, rfl, h0, h1, h2, h3, rr⟩ | ⟨p, kvs, ks, ds, rfl, rfl, h0, h1, h2, h3, k, rr⟩
  · exact hq _ S2 hf2 _ H2 H02 (g2.own st2 gr2 h0 j ⟨p, xs, rfl, h1, h2, h3, rr⟩) sb
  · exact hq _ S2 hf2 _ H2 H02 (g2.own st2 gr2 h0 j ⟨p, kvs, rfl, h1, h2, h3, k, rr⟩) sb
end
end DL

set_option Elab.async false
set_option linter.all false
set_option maxRecDepth 100000
set_option maxHeartbeats 4000000
namespace DL
open PySem PySem.Spec PyProof.Rows L2 STx OrdS

/-! ### len(set(e)), texts -/
def rLenTx (w : World) : List V → Hp → VK → Prop := fun vs H Q => ∃ (a : Addr) (ys : List Str) (n : Nat), vs = [.ref a] ∧ H a = some (TSO w a (fun y => y ∈ ys) n) ∧ Q (.int ((sset ys).length : Nat)) H
theorem cr_lenTx {X : Cx} : CallR X (.builtin "len") (rLenTx X.w) := by
  intro pins s σ H xs us Q I r h
  obtain ⟨a, ys, n, rfl, ha, q⟩ := h
  rw [Vals.ref1 r]
  have R : TSet X.w s.heap a (fun y => y ∈ ys) n := (I.hok a _ ha).1
  obtain ⟨o, es, ep, t, R'⟩ := id R
  have hn : es.size = (sset ys).length := by
    have p := nodup_perm R'.nd (sset_nodup ys) fun x => (R'.mem x).symm.trans (sset_mem x ys).symm
    rw [← p.length_eq, List.length_map, Array.length_toList]
  have few := R'.few
  have e4 : scanBound = 4096 := rfl
  exact call_len_set R'.at_ R'.ex R'.dat R'.fit (by omega) ⟨.int ((sset ys).length : Nat), H, I.tok _, ⟨_, by rw [hn]⟩, q⟩
def dLset (d : D) : T D := dOpt (strsIn d) fun ss => T.bind (dNeed (ss.length + 1 < scanBound)) fun _ => T.pure (.int ((sset ss).length : Nat))
theorem x_lset {X : Cx} {E : XK} {e : Expr} {m : ME} {p p2 pos pos2 : Pos} (hc : X.calm = true) (hm1 : X.mg "len" = none) (hm2 : X.mg "set" = none) (ha : XB X E e m) (hg1 : Gl X "len" := by rfl) (hg2 : Gl X "set" := by rfl)
    (hs : starEach [e] X.env = (false, eval e X.env) :: starEach [] X.env := by rfl)
    (hs2 : starEach [Expr.Call (.Name "set" p2) [e] [] pos2] X.env = (false, eval (Expr.Call (.Name "set" p2) [e] [] pos2) X.env) :: starEach [] X.env := by rfl) :
    XE X E (.Call (.Name "len" p) [.Call (.Name "set" p2) [e] [] pos2] [] pos) (fun g => T.bind (m g) dLset) := by
  refine pe_w (pe_callB cr_lenTx hg1 hm1 (by decide +kernel) (pa_cons (pe_callTy (cr_setTx hc) hg2 hm2 (by decide +kernel) (pa_cons ha pa_nil hs) (by decide) (by decide) hs rfl) pa_nil hs2) (by decide) (by decide) hs2 rfl) fun σ H Q ⟨g, S, H0, Qd, Ed, rel, hm, hq, he⟩ => ?_
  refine ⟨g, S, H0, _, Ed, rel, hm, fun d S1 hf v H1 H01 st1 gr1 r1 => ?_, he⟩
  obtain ⟨ss, hd, hf⟩ := dOpt_inv (show dOpt (strsIn d) _ S1 Qd Ed from hf)
  obtain ⟨z1, hf⟩ := hf
  obtain ⟨q, rfl, hp⟩ := r1.strsIn st1 hd
  refine ⟨q, ss, rfl, hp, z1, fun a n ha => ⟨a, ss, n, rfl, upd_same, ?_⟩⟩
  obtain ⟨st2, gr2, n0, nS⟩ := alloc_n st1 ha (TSO X.w a (fun y => y ∈ ss) n)
  exact hq _ S1 hf _ _ _ st2 (gr1.trans st1 gr2) (.int _)

/-! ### xs.index(x), s.index(c) -/
def ixS (s : Str) : List Str → Option Nat
  | [] => none
  | y :: r => if y = s then some 0 else (ixS s r).map (· + 1)
theorem ixS_some {s : Str} : ∀ {l : List Str} {j : Nat}, ixS s l = some j → l[j]? = some s ∧ ∀ (m : Nat) y, m < j → l[m]? = some y → y ≠ s
  | [], j, h => by cases h
  | y :: r, j, h => by
    unfold ixS at h
    by_cases e : y = s
    · rw [if_pos e] at h
      cases h
      exact ⟨by rw [e]; rfl, fun m y hm => absurd hm (Nat.not_lt_zero _)⟩
    · rw [if_neg e] at h
      obtain ⟨i, hi, rfl⟩ := Option.map_eq_some_iff.mp h
      obtain ⟨h1, h2⟩ := ixS_some hi
      refine ⟨by simpa using h1, fun m z hm hz => ?_⟩
      cases m with
      | zero => cases hz; exact e
      | succ m => exact h2 m z (by omega) (by simpa using hz)
def dIndex : D → D → T D
  | .lst xs, .str s => dOpt (strsOf xs) fun ss => dOpt (ixS s ss) fun j => T.pure (.int (j : Nat))
  | _, _ => T.fail
theorem dIndex_inv {d e : D} {S : Sto} {Qd : D → Sto → Prop} {Ed : Xn → Sto → Prop} (h : dIndex d e S Qd Ed) : ∃ xs s ss j, d = .lst xs ∧ e = .str s ∧ strsOf xs = some ss ∧ ixS s ss = some j ∧ Qd (.int (j : Nat)) S := by
  unfold dIndex at h
  split at h
  · obtain ⟨ss, h1, h⟩ := dOpt_inv h
    obtain ⟨j, h2, h⟩ := dOpt_inv h
    exact ⟨_, _, ss, j, rfl, rfl, h1, h2, h⟩
  · exact h.elim
section
variable {X : Cx} {E : XK} {a b : Expr} {ma mb : ME} {apos pos : Pos}
theorem flat_strV (ss : List Str) : (ss.map V.str).all flatV = true := by rw [List.all_map, List.all_eq_true]; exact fun _ _ => rfl
theorem x_lindex (ho : XE X E a ma) (hb : XB X E b mb) (hbase : attributeBase a "index" X.env (eval a X.env) = eval a X.env := by rfl)
    (hfew : ((backTo pos (starEach [b] X.env)).all (fun x => !x.1) && (backToKw pos (keywordEach [] X.env)).all (fun x => x.1.isSome)
      && decide (([b] : List Expr).length + ([] : List Keyword).length + (if ([] : List Keyword).isEmpty then 0 else 1) < 30)) = true := by rfl)
    (hline : (apos.endLine == pos.line) = true := by rfl) (hs : starEach [b] X.env = (false, eval b X.env) :: starEach [] X.env := by rfl) (hplain : (backTo pos (starEach [] X.env)).any (·.1) = false := by rfl) :
    XE X E (.Call (.Attribute a "index" apos) [b] [] pos) (fun g => T.bind (ma g) fun x => T.bind (dNeed (isL x = true)) fun _ => T.bind (mb g) fun y => dIndex x y) := by
  refine pe_w (pe_bm PySem.F.plainAttrs_list PySem.F.slot_list_index PySem.F.type_list_index mt_index ho (pa_cons hb pa_nil hs) hbase hfew hline hs hplain) fun σ H Q ⟨g, S, H0, Qd, Ed, rel, hm, hq, he⟩ => ?_
  refine ⟨g, S, H0, _, Ed, rel, hm, fun d S1 hf v H1 H01 st1 gr1 r1 => ?_, he⟩
  obtain ⟨hL, hf⟩ := hf
  cases d with
  | lst xs =>
    cases r1 with
    | lst h1 r =>
      rename_i p vs
      refine ⟨.inl ⟨rfl, vs, .of (st1.sub _ _ h1)⟩, ?_⟩
      refine ⟨g, S1, H01, _, Ed, rel.grow st1 gr1, hf, fun d2 S2 hf2 w H2 H02 st2 gr2 r2 => ?_, fun x S' ex => (he x S' ex).grow st1 gr1⟩
      obtain ⟨xs', s, ss, j, e1, rfl, h3, h4, hf2⟩ := dIndex_inv hf2
      cases e1
      cases r2.str
      obtain ⟨k1, k2⟩ := ixS_some h4
      have rs : vs = ss.map V.str := Rps.strs (by rw [← strsOf_eq h3]; exact r)
      refine ⟨p, vs, .str s, j, .str s, rfl, rfl, .of (st2.sub _ _ (gr2.sub _ _ h1)), rfl, by rw [rs]; exact flat_strV ss, by rw [rs, List.getElem?_map, k1]; rfl, by show (s == s) = true; exact beq_self_eq_true s, fun m z' hm hz => ?_, hq _ S2 hf2 _ H2 H02 st2 (gr1.trans st1 gr2) (.int _)⟩
      rw [rs, List.getElem?_map] at hz
      obtain ⟨y, hy, rfl⟩ := Option.map_eq_some_iff.mp hz
      show (y == s) = false
      exact beq_eq_false_iff_ne.mpr (k2 m y hm hy)
  | _ => cases hL
def dSIndex : D → D → T D
  | .str x, .str y => dOpt (Builtin.Str.occurrences x y 0 x.length 1).head? fun i => T.pure (.int (i : Nat))
  | _, _ => T.fail
theorem dSIndex_inv {d e : D} {S : Sto} {Qd : D → Sto → Prop} {Ed : Xn → Sto → Prop} (h : dSIndex d e S Qd Ed) : ∃ x y i, d = .str x ∧ e = .str y ∧ (Builtin.Str.occurrences x y 0 x.length 1).head? = some i ∧ Qd (.int (i : Nat)) S := by
  unfold dSIndex at h
  split at h
  · obtain ⟨i, h1, h⟩ := dOpt_inv h
    exact ⟨_, _, i, rfl, rfl, h1, h⟩
  · exact h.elim
theorem x_sindex (ho : XB X E a ma) (hb : XB X E b mb) (hs : starEach [b] X.env = [(false, eval b X.env)] := by rfl) (hbase : attributeBase a "index" X.env (eval a X.env) = eval a X.env := by rfl) (hline : (apos.endLine == pos.line) = true := by rfl) :
    XE X E (.Call (.Attribute a "index" apos) [b] [] pos) (fun g => T.bind (ma g) fun x => T.bind (dAsS x) fun s => T.bind (mb g) fun y => dSIndex (.str s) y) := by
  refine pe_w (pe_m1 F.slot_str_index F.type_str_index mt_sindex ho hb hs hbase hline) fun σ H Q ⟨g, S, H0, Qd, Ed, rel, hm, hq, he⟩ => ?_
  refine ⟨g, S, H0, _, Ed, rel, hm, fun d S1 hf v H1 H01 st1 gr1 r1 => ?_, he⟩
  obtain ⟨s, rfl, hf⟩ := dAsS_inv hf
  cases r1.str
  refine ⟨⟨_, rfl⟩, g, S1, H01, _, Ed, rel.grow st1 gr1, hf, fun d2 S2 hf2 w H2 H02 st2 gr2 r2 => ?_, fun x S' ex => (he x S' ex).grow st1 gr1⟩
  obtain ⟨x, y, i, e1, rfl, h, hf2⟩ := dSIndex_inv hf2
  cases e1
  cases r2.str
  cases q : Builtin.Str.occurrences s y 0 s.length 1 with
  | nil => rw [q] at h; cases h
  | cons i' r =>
    rw [q] at h
    cases h
    exact ⟨s, y, i, r, rfl, rfl, q, hq _ S2 hf2 _ H2 H02 st2 (gr1.trans st1 gr2) (.int _)⟩
end

/-! ### t * k -/
section
variable {K : PySem.W.Frag}
def dRepT : D → D → T D
  | .tup xs, .int k => T.bind (dNeed (xs ≠ [] ∧ 2 ≤ k ∧ k ≤ 1000 ∧ xs.length ≤ 1000)) fun _ => T.pure (.tup (List.replicate k.toNat xs).flatten)
  | _, _ => T.fail
theorem s_repT : OpS K (RF K) (rRepT K) dRepT := by
  intro v w a b H H0 S Qd Ed Q st ra rb hf hq
  unfold dRepT at hf
  split at hf
  · rename_i xs k
    obtain ⟨⟨h1, h2, h3, h4⟩, hf⟩ := hf
    obtain ⟨p, vs, rfl, hs, r⟩ := ra.tup
    cases rb.int
    have rl := r.length
    refine ⟨p, k, vs, rfl, rfl, sqT_sub st.sub hs, fun e => ?_, h2, h3, by rw [rl]; exact h4, fun q hn => ?_⟩
    · subst e
      exact h1 (List.length_eq_zero_iff.mp rl.symm)
    · obtain ⟨st2, gr2⟩ := alloc_f st hn (.tup (List.replicate k.toNat vs).flatten)
      exact hq _ S hf _ _ _ st2 gr2 (.tup (.of upd_same) ((r.rep _).sub gr2.sub))
  · exact hf.elim
end
section
variable {X : Cx} {E : XK} {a b : Expr} {pos : Pos} {ma mb : ME}
theorem x_repT (ha : XB X E a ma) (hb : XB X E b mb) : XE X E (.BinOp a .Mult b pos) (mb2 dRepT ma mb) := x_op back_F op_repT s_repT ha hb
end

/-! ### sum(t) -/
section
def rSumT (K : PySem.W.Frag) : List V → Hp → VK → Prop := fun vs H Q => ∃ (a : Addr) (ns : List Int), vs = [V.ref a] ∧ SqT K H a (ns.map V.int) ∧ Q (.int ns.sum) H
theorem cr_sumT {X : Cx} (hc : X.calm = true) : CallR X (.builtin "sum") (rSumT X.K) := by
  intro pins s σ H vs us Q I r h
  obtain ⟨a, ns, rfl, hs, q⟩ := h
  obtain ⟨its, rv, hl, _⟩ := I.tuple hs
  rw [Vals.ref1 r]
  have hi := rv.ints
  obtain ⟨xs, e⟩ := hi.allInts.items
  have hn : numsOf (intItems xs).toList = ns := by rw [← e]; exact hi.numsOf
  rw [nums_intItems] at hn
  have hl : s.heap.IsTuple a its.toArray := hl
  rw [e] at hl
  refine PySem.W.ktm_sumG (I.ok.hd hc) hl fun h' tk t' hk => ?_
  rw [preSum_eq, List.take_of_length_le (by simp), hn]
  exact ⟨.int _, H, I.kept hk, ⟨_, rfl⟩, q⟩
variable {K : PySem.W.Frag}
def dSumT : List D → T D
  | [.tup xs] => dOpt (intsOf xs) fun ns => T.pure (.int ns.sum)
  | _ => T.fail
theorem s_sumT : CallS K (RF K) (rSumT K) dSumT := by
  intro vs ds H H0 S Qd Ed Q st rs hf hq
  unfold dSumT at hf
  split at hf
  · obtain ⟨v, rfl, rv⟩ := rs.one
    obtain ⟨a, xs, rfl, h1, r⟩ := rv.tup
    obtain ⟨bs, hb, hf⟩ := dOpt_inv hf
    rw [intsOf_eq hb] at r
    exact ⟨a, bs, rfl, by rw [← r.ints]; exact sqT_sub st.sub h1, hq _ S hf _ H H0 st (Grow.refl _ _ _) (.int _)⟩
  · exact hf.elim
end

/-! ### a <= b <= c as a test -/
section
variable {X : Cx} {E : XK} {a b c : Expr} {pos : Pos} {ma mb mc : ME}
theorem chain_lf {K : PySem.W.Frag} {r r' : R2} {f f' : D → D → T D} (hs : OpS K (RF K) r f) (hs' : OpS K (RF K) r' f') {σ : L2.St} {H : Hp} {Q : VK}
    (h : lf K E (RF K) (fun g => T.bind (ma g) fun x => T.bind (mb g) fun y => T.bind (f x y) fun z => T.bind (dAsB z) fun k => T.ite k (T.bind (mc g) fun w => f' y w) (T.pure (.bl false))) σ H Q) :
    tChain r r' (lf K E (RB K) ma) (lf K E (RB K) mb) (lf K E (RB K) mc) σ H Q := by
  obtain ⟨g, S, H0, Qd, Ed, rel, hm, hq, he⟩ := h
  refine ⟨g, S, H0, _, Ed, rel, hm, fun x S1 hf v H1 H01 st1 gr1 r1 => ?_, he⟩
  refine ⟨g, S1, H01, _, Ed, rel.grow st1 gr1, hf, fun y S2 hf2 w H2 H02 st2 gr2 r2 => ?_, fun x S' ex => (he x S' ex).grow st1 gr1⟩
  refine hs v w x y H2 H02 S2 _ Ed _ st2 (r1.grow gr2) r2 hf2 fun z S3 hz u H3 H03 st3 gr3 r3 => ?_
  obtain ⟨k, rfl, hz⟩ := dAsB_inv hz
  cases r3
  refine ⟨k, rfl, ?_⟩
  have g13 := (gr1.trans st1 gr2).trans st2 gr3
  cases k with
  | false =>
    have hz := T.iteF hz
    exact hq _ S3 hz _ H3 H03 st3 g13 (.bl _)
  | true =>
    have hz := T.iteT hz
    refine ⟨g, S3, H03, _, Ed, (rel.grow st2 (gr1.trans st1 gr2)).grow st3 gr3, hz, fun w' S4 h4 u4 H4 H04 st4 gr4 r4 => ?_, fun x S' ex => (he x S' ex).grow st3 g13⟩
    refine hs' w u4 y w' H4 H04 S4 Qd Ed Q st4 (r2.grow (gr3.trans st3 gr4)) r4 h4 fun d S' qd u H' H0' st' gr' r' => ?_
    exact hq d S' qd u H' H0' st' ((g13.trans st3 gr4).trans st4 gr') r'
theorem t_lele (ha : XB X E a ma) (hb : XB X E b mb) (hc : XB X E c mc) (hm : lastMarks [.LtE, .LtE] [b, c] = false := by with_unfolding_all rfl) :
    XT X E (.Compare a [.LtE, .LtE] [b, c] pos) (fun g => T.bind (T.bind (ma g) fun x => T.bind (mb g) fun y => T.bind (dLe x y) fun z => T.bind (dAsB z) fun k => T.ite k (T.bind (mc g) fun w => dLe y w) (T.pure (.bl false))) dAsB) := by
  refine pt_w (pt_chain op_le op_le ha hb hc hm) fun σ H Q ⟨g, S, H0, Qd, Ed, rel, hm, hq, he⟩ => ?_
  refine chain_lf (E := E) (ma := ma) (mb := mb) (mc := mc) (f := dLe) (f' := dLe) (s_I0 fun _ _ _ => .bl _) (s_I0 fun _ _ _ => .bl _) ⟨g, S, H0, _, Ed, rel, hm, fun d S1 hf v H1 H01 st1 gr1 r1 => ?_, he⟩
  obtain ⟨k, rfl, hf⟩ := dAsB_inv hf
  cases r1
  exact ⟨k, rfl, hq _ S1 hf H1 H01 st1 gr1⟩
end

/-! ### a tuple of texts of the module -/
def eqStrs : List Value → List Str → Bool
  | [], [] => true
  | .str y _ :: r, z :: zs => decide (y = z) && eqStrs r zs
  | _, _ => false
theorem eqStrs_ok : ∀ {l : List Value} {ss : List Str}, eqStrs l ss = true → Vals (ss.map V.str) l
  | [], [], _ => .nil
  | .str y t :: r, z :: zs, h => by
    have h : (decide (y = z) && eqStrs r zs) = true := h
    rw [Bool.and_eq_true] at h
    obtain rfl := of_decide_eq_true h.1
    exact .cons ⟨t, rfl⟩ (eqStrs_ok h.2)
def tupTB (x : Str) (ss : List Str) (K : PySem.W.Frag) : Bool := match K.lookup (He.ga K x) with
  | some o => decide (o.cls = .type "tuple") && (match o.data with
    | .seq its _ => decide (its.size ≤ 1000) && eqStrs its.toList ss
    | _ => false)
  | none => false
theorem tupTB_ok {K : PySem.W.Frag} {x : Str} {ss : List Str} (h : tupTB x ss K = true) : TupK K (He.ga K x) ss := by
  unfold tupTB at h
  cases q : K.lookup (He.ga K x) with
  | none => rw [q] at h; cases h
  | some o =>
    rw [q] at h
    have h := Bool.and_eq_true_iff.mp h
    have hc := of_decide_eq_true h.1
    cases hd : o.data with
    | seq its n =>
      have h2 := h.2
      rw [hd] at h2
      have h2 := Bool.and_eq_true_iff.mp h2
      have hs := of_decide_eq_true h2.1
      have e : sizeLine = 16777216 := sizeLine_eq
      exact ⟨o, its, n, q, hc, hd, by omega, eqStrs_ok h2.2⟩
    | _ =>
      have h2 := h.2
      rw [hd] at h2
      cases h2
end DL

set_option Elab.async false
set_option linter.all false
set_option maxRecDepth 100000
set_option maxHeartbeats 4000000
namespace DL
open PySem PySem.Spec PyProof.Rows L2 STx OrdS
theorem swap_cell {x y : Str} {px py p p2 : Pos} {k k2} {a b : Expr} {env : Env} (h : (env.kindOf x == some .local && env.kindOf y == some .local) = false) : swappedStores [.Tuple [.Name x px, .Name y py] k p] (.Tuple [a, b] k2 p2) env = pure none := by
  unfold swappedStores
  dsimp only
  split
  · rfl
  split
  · rfl
  rw [if_pos]
  · rw [Bool.or_eq_true]
    left
    rcases Bool.and_eq_false_iff.mp h with h | h
    · simp only [List.filterMap_cons, h, Bool.false_and, Bool.false_eq_true, if_false, List.filterMap_nil]
      split <;> simp
    · simp only [List.filterMap_cons, h, Bool.false_and, Bool.false_eq_true, if_false, List.filterMap_nil]
      split <;> simp
section
variable {X : Cx} {E : XK}
/-- -n, a constant -/
theorem x_neg0 {n : Int} {k p p2} : XE X E (.UnaryOp .USub (.Constant (.int n) k p) p2) (fun _ => T.pure (.int (-n))) :=
  pe_w (pe_un un_neg pe_int) fun σ H Q ⟨g, S, H0, Qd, Ed, rel, hm, hq, he⟩ => ⟨n, rfl, hq _ S hm _ H H0 rel.st (Grow.refl _ _ _) (.int _)⟩
end
end DL

set_option Elab.async false
set_option linter.all false
set_option maxRecDepth 100000
namespace Four
/-! the four functions theorem, on lists of truths -/
theorem two {P Q x y : Nat} (hx : x ≤ P) (hy : y ≤ P) (h : x * y ≤ P * Q) : x + y ≤ P + Q := by
  rcases Nat.eq_zero_or_pos P with h0 | hP
  · omega
  obtain ⟨a, rfl⟩ := Nat.exists_eq_add_of_le hx
  -- P = x + a; y ≤ x + a
  by_cases hya : y ≤ a
  · omega
  · obtain ⟨b, rfl⟩ : ∃ b, y = a + b := ⟨y - a, by omega⟩
    -- b ≤ x; want x + a + b ≤ x + a + Q, so b ≤ Q
    have hb : b ≤ x := by omega
    have e : (x + a) * b ≤ x * (a + b) := by
      rw [Nat.add_mul, Nat.mul_add, Nat.add_comm]
      refine Nat.add_le_add ?_ (Nat.le_refl _)
      rw [Nat.mul_comm x a]
      exact Nat.mul_le_mul_left _ hb
    have k : (x + a) * b ≤ (x + a) * Q := Nat.le_trans e h
    have := Nat.le_of_mul_le_mul_left k hP
    omega
theorem one {a0 a1 b0 b1 c0 c1 d0 d1 : Nat} (h00 : a0 * b0 ≤ c0 * d0) (h01 : a0 * b1 ≤ c1 * d0) (h10 : a1 * b0 ≤ c1 * d0) (h11 : a1 * b1 ≤ c1 * d1) : (a0 + a1) * (b0 + b1) ≤ (c0 + c1) * (d0 + d1) := by
  have k : a0 * b1 + a1 * b0 ≤ c1 * d0 + c0 * d1 := two h01 h10 (by
    calc a0 * b1 * (a1 * b0) = (a0 * b0) * (a1 * b1) := by ac_rfl
      _ ≤ (c0 * d0) * (c1 * d1) := Nat.mul_le_mul h00 h11
      _ = c1 * d0 * (c0 * d1) := by ac_rfl)
  rw [Nat.add_mul, Nat.mul_add, Nat.mul_add, Nat.add_mul, Nat.mul_add, Nat.mul_add]
  omega
/-- the sum over all lists of that length -/
def S : Nat → (List Bool → Nat) → Nat
  | 0, f => f []
  | n + 1, f => S n fun s => f (false :: s) + f (true :: s)
def or' : List Bool → List Bool → List Bool
  | a :: s, b :: t => (a || b) :: or' s t
  | _, _ => []
def and' : List Bool → List Bool → List Bool
  | a :: s, b :: t => (a && b) :: and' s t
  | _, _ => []
theorem four : ∀ (n : Nat) (α β γ δ : List Bool → Nat), (∀ s t : List Bool, s.length = n → t.length = n → α s * β t ≤ γ (or' s t) * δ (and' s t)) → S n α * S n β ≤ S n γ * S n δ
  | 0, α, β, γ, δ, h => h [] [] rfl rfl
  | n + 1, α, β, γ, δ, h => by
    refine four n _ _ _ _ fun s t hs ht => ?_
    have h' : ∀ a b, α (a :: s) * β (b :: t) ≤ γ ((a || b) :: or' s t) * δ ((a && b) :: and' s t) := fun a b => h (a :: s) (b :: t) (by simp [hs]) (by simp [ht])
    exact one (h' false false) (h' false true) (h' true false) (h' true true)
end Four

set_option Elab.async false
set_option linter.all false
set_option maxRecDepth 100000
namespace Four
/-! families as lists of sets, sets as lists of truths -/
def allL : Nat → List (List Bool)
  | 0 => [[]]
  | n + 1 => (allL n).map (false :: ·) ++ (allL n).map (true :: ·)
def sm {α : Type} (f : α → Nat) (l : List α) : Nat := (l.map f).sum
theorem sm_app {α : Type} (f : α → Nat) (l m : List α) : sm f (l ++ m) = sm f l + sm f m := by
  unfold sm; rw [List.map_append, List.sum_append]
theorem sm_map {α β : Type} (f : β → Nat) (g : α → β) (l : List α) : sm f (l.map g) = sm (fun x => f (g x)) l := by
  unfold sm; rw [List.map_map]; rfl
theorem sm_add {α : Type} (f g : α → Nat) : ∀ l : List α, sm (fun x => f x + g x) l = sm f l + sm g l
  | [] => rfl
  | x :: l => by
    have := sm_add f g l
    unfold sm at this ⊢
    rw [List.map_cons, List.map_cons, List.map_cons, List.sum_cons, List.sum_cons, List.sum_cons, this]
    omega
theorem S_sm : ∀ (n : Nat) (f : List Bool → Nat), S n f = sm f (allL n)
  | 0, f => by show f [] = f [] + 0; omega
  | n + 1, f => by
    show S n (fun s => f (false :: s) + f (true :: s)) = _
    rw [S_sm n, sm_add]
    show _ = sm f ((allL n).map (false :: ·) ++ (allL n).map (true :: ·))
    rw [sm_app, sm_map, sm_map]
theorem sm_perm {α : Type} (f : α → Nat) {l m : List α} (h : l.Perm m) : sm f l = sm f m := (h.map f).sum_nat
theorem sm_len {α : Type} (p : α → Bool) : ∀ l : List α, sm (fun x => if p x then 1 else 0) l = (l.filter p).length
  | [] => rfl
  | x :: l => by
    have ih := sm_len p l
    unfold sm at ih ⊢
    rw [List.map_cons, List.sum_cons, ih]
    cases h : p x with
    | true => rw [List.filter_cons_of_pos h, List.length_cons, if_pos rfl]; omega
    | false => rw [List.filter_cons_of_neg (by rw [h]; exact Bool.false_ne_true), if_neg Bool.false_ne_true]; omega
def no' (s : List Bool) : List Bool := s.map (!·)
theorem S_no : ∀ (n : Nat) (f : List Bool → Nat), S n (fun s => f (no' s)) = S n f
  | 0, f => rfl
  | n + 1, f => by
    show S n (fun s => f (true :: no' s) + f (false :: no' s)) = S n fun s => f (false :: s) + f (true :: s)
    rw [S_no n fun s => f (true :: s) + f (false :: s)]
    congr 1
    funext s
    omega
/-- a family's size: of a list of sets without repeats, all of n letters -/
theorem len_S {n : Nat} {A : List (List Bool)} (nd : A.Nodup) (hA : ∀ s ∈ A, s ∈ allL n) (hn : (allL n).Nodup) : A.length = S n fun s => if decide (s ∈ A) then 1 else 0 := by
  rw [S_sm, sm_len]
  refine List.Perm.length_eq ?_
  refine (List.perm_ext_iff_of_nodup nd (hn.filter _)).mpr fun s => ?_
  rw [List.mem_filter, decide_eq_true_eq]
  exact ⟨fun h => ⟨hA s h, h⟩, fun h => h.2⟩
theorem allL_len : ∀ {n : Nat} {s : List Bool}, s ∈ allL n → s.length = n
  | 0, s, h => by
    have h : s ∈ [[]] := h
    rw [List.mem_singleton] at h; subst h; rfl
  | n + 1, s, h => by
    have h : s ∈ (allL n).map (false :: ·) ++ (allL n).map (true :: ·) := h
    rcases List.mem_append.mp h with h | h
    · obtain ⟨t, ht, rfl⟩ := List.mem_map.mp h; rw [List.length_cons, allL_len ht]
    · obtain ⟨t, ht, rfl⟩ := List.mem_map.mp h; rw [List.length_cons, allL_len ht]
theorem mem_allL : ∀ {n : Nat} {s : List Bool}, s.length = n → s ∈ allL n
  | 0, [], _ => List.mem_cons_self
  | n + 1, b :: s, h => by
    show b :: s ∈ (allL n).map (false :: ·) ++ (allL n).map (true :: ·)
    have hs : s ∈ allL n := mem_allL (by simpa using h)
    cases b
    · exact List.mem_append.mpr (.inl (List.mem_map.mpr ⟨s, hs, rfl⟩))
    · exact List.mem_append.mpr (.inr (List.mem_map.mpr ⟨s, hs, rfl⟩))
theorem ind_mul {p q r t : Prop} [Decidable p] [Decidable q] [Decidable r] [Decidable t] (h : p → q → r ∧ t) : (if decide p then 1 else 0) * (if decide q then 1 else 0) ≤ (if decide r then 1 else 0) * (if decide t then 1 else 0) := by
  by_cases hp : p
  · by_cases hq : q
    · obtain ⟨hr, ht⟩ := h hp hq
      simp [hp, hq, hr, ht]
    · simp [hq]
  · simp [hp]
/-- joins and meets -/
theorem joins_meets {n : Nat} (hn : (allL n).Nodup) {A B J M : List (List Bool)} (nA : A.Nodup) (nB : B.Nodup) (nJ : J.Nodup) (nM : M.Nodup) (hA : ∀ s ∈ A, s ∈ allL n) (hB : ∀ s ∈ B, s ∈ allL n) (hJ : ∀ s ∈ J, s ∈ allL n) (hM : ∀ s ∈ M, s ∈ allL n)
    (h : ∀ s ∈ A, ∀ t ∈ B, or' s t ∈ J ∧ and' s t ∈ M) : A.length * B.length ≤ J.length * M.length := by
  rw [len_S nA hA hn, len_S nB hB hn, len_S nJ hJ hn, len_S nM hM hn]
  exact four n _ _ _ _ fun s t _ _ => ind_mul fun hs ht => h s hs t ht
def less' : List Bool → List Bool → List Bool
  | a :: s, b :: t => (a && !b) :: less' s t
  | _, _ => []
theorem and_no : ∀ s t : List Bool, and' s (no' t) = less' s t
  | [], t => by cases t <;> rfl
  | _ :: _, [] => rfl
  | a :: s, b :: t => by
    show (a && !b) :: and' s (no' t) = _
    rw [and_no s t]; rfl
theorem no_or : ∀ s t : List Bool, no' (or' s (no' t)) = less' t s
  | [], t => by cases t <;> rfl
  | _ :: _, [] => rfl
  | a :: s, b :: t => by
    show (!(a || !b)) :: no' (or' s (no' t)) = (b && !a) :: less' t s
    rw [no_or s t]
    cases a <;> cases b <;> rfl
/-- differences both ways -/
theorem lesses {n : Nat} (hn : (allL n).Nodup) {A B J M : List (List Bool)} (nA : A.Nodup) (nB : B.Nodup) (nJ : J.Nodup) (nM : M.Nodup) (hA : ∀ s ∈ A, s ∈ allL n) (hB : ∀ s ∈ B, s ∈ allL n) (hJ : ∀ s ∈ J, s ∈ allL n) (hM : ∀ s ∈ M, s ∈ allL n)
    (h : ∀ s ∈ A, ∀ t ∈ B, less' s t ∈ J ∧ less' t s ∈ M) : A.length * B.length ≤ J.length * M.length := by
  have e1 := len_S nA hA hn
  have e2 := len_S nB hB hn
  have e3 := len_S nJ hJ hn
  have e4 := len_S nM hM hn
  rw [← S_no] at e2 e4
  rw [e1, e2, e3, e4, Nat.mul_comm (S n fun s => if decide (s ∈ J) then 1 else 0)]
  refine four n _ _ _ _ fun s t _ _ => ind_mul fun hs ht => ?_
  have k := h s hs (no' t) ht
  have nn : ∀ t : List Bool, no' (no' t) = t := fun t => by
    induction t with
    | nil => rfl
    | cons b t ih => show (!(!b)) :: no' (no' t) = _; rw [ih, Bool.not_not]
  have i1 : and' s t = less' s (no' t) := by rw [← and_no, nn t]
  have i2 : no' (or' s t) = less' (no' t) s := by rw [← no_or, nn t]
  rw [i1, i2]
  exact ⟨k.2, k.1⟩
end Four

set_option Elab.async false
set_option linter.all false
set_option maxRecDepth 100000
namespace Reim
open Four
/-! sums of integers over lists -/
def su {α : Type} (f : α → Int) (l : List α) : Int := (l.map f).sum
theorem su_nil {α : Type} (f : α → Int) : su f [] = 0 := rfl
theorem su_cons {α : Type} (f : α → Int) (a : α) (l : List α) : su f (a :: l) = f a + su f l := by unfold su; rw [List.map_cons, List.sum_cons]
theorem su_app {α : Type} (f : α → Int) : ∀ l m : List α, su f (l ++ m) = su f l + su f m
  | [], m => by rw [List.nil_append, su_nil, Int.zero_add]
  | a :: l, m => by rw [List.cons_append, su_cons, su_cons, su_app f l m, Int.add_assoc]
theorem su_map {α β : Type} (f : β → Int) (g : α → β) (l : List α) : su f (l.map g) = su (fun x => f (g x)) l := by unfold su; rw [List.map_map]; rfl
theorem su_congr {α : Type} {f g : α → Int} : ∀ {l : List α}, (∀ x ∈ l, f x = g x) → su f l = su g l
  | [], _ => rfl
  | a :: l, h => by rw [su_cons, su_cons, h a List.mem_cons_self, su_congr fun x hx => h x (List.mem_cons_of_mem _ hx)]
theorem su_zero {α : Type} {f : α → Int} {l : List α} (h : ∀ x ∈ l, f x = 0) : su f l = 0 := by
  induction l with
  | nil => rfl
  | cons a l ih => rw [su_cons, h a List.mem_cons_self, ih fun x hx => h x (List.mem_cons_of_mem _ hx)]; rfl
theorem su_mul {α : Type} (f : α → Int) (k : Int) : ∀ l : List α, su (fun x => k * f x) l = k * su f l
  | [] => by rw [su_nil, su_nil, Int.mul_zero]
  | a :: l => by rw [su_cons, su_cons, su_mul f k l, Int.mul_add]
theorem su_mul' {α : Type} (f : α → Int) (k : Int) (l : List α) : su (fun x => f x * k) l = su f l * k := by
  rw [Int.mul_comm, ← su_mul]
  exact su_congr fun x _ => Int.mul_comm _ _
theorem su_add {α : Type} (f g : α → Int) : ∀ l : List α, su (fun x => f x + g x) l = su f l + su g l
  | [] => rfl
  | a :: l => by rw [su_cons, su_cons, su_cons, su_add f g l]; omega
theorem su_perm {α : Type} (f : α → Int) {l m : List α} (h : l.Perm m) : su f l = su f m := by
  induction h with
  | nil => rfl
  | cons a _ ih => rw [su_cons, su_cons, ih]
  | swap a b l => rw [su_cons, su_cons, su_cons, su_cons]; omega
  | trans _ _ i j => rw [i, j]
theorem su_swap {α β : Type} (f : α → β → Int) : ∀ (l : List α) (m : List β), su (fun x => su (f x) m) l = su (fun y => su (fun x => f x y) l) m
  | [], m => by rw [su_nil]; exact (su_zero fun _ _ => rfl).symm
  | a :: l, m => by
    rw [su_cons, su_swap f l m, ← su_add]
    exact su_congr fun y _ => (su_cons (fun x => f x y) a l).symm
theorem su_sq {α : Type} {f : α → Int} : ∀ {l : List α}, su (fun x => f x * f x) l = 0 → ∀ x ∈ l, f x = 0
  | a :: l, h, x, hx => by
    have nn : ∀ l : List α, 0 ≤ su (fun x => f x * f x) l := fun l => by
      induction l with
      | nil => exact Int.le_refl _
      | cons b l ih =>
        rw [su_cons]
        have : 0 ≤ f b * f b := by
          rcases Int.le_total 0 (f b) with h | h
          · exact Int.mul_nonneg h h
          · exact Int.mul_nonneg_of_nonpos_of_nonpos h h
        omega
    have h0 : 0 ≤ f a * f a := by
      rcases Int.le_total 0 (f a) with h | h
      · exact Int.mul_nonneg h h
      · exact Int.mul_nonneg_of_nonpos_of_nonpos h h
    rw [su_cons] at h
    have h1 := nn l
    have e1 : f a * f a = 0 := by omega
    have e2 : su (fun x => f x * f x) l = 0 := by omega
    rcases List.mem_cons.mp hx with rfl | hx
    · rcases Int.mul_eq_zero.mp e1 with h | h <;> exact h
    · exact su_sq e2 x hx
/-! more unknowns than rows -/
theorem kern {α β : Type} [DecidableEq α] : ∀ (S : List β) (X : List α) (a : α → β → Int), X.Nodup → S.length < X.length → ∃ c : α → Int, (∃ x ∈ X, c x ≠ 0) ∧ ∀ s ∈ S, su (fun x => c x * a x s) X = 0
  | [], [], _, _, h => absurd h (Nat.lt_irrefl _)
  | [], x :: X, _, _, _ => ⟨fun _ => 1, ⟨x, List.mem_cons_self, fun e => absurd (show (1 : Int) = 0 from e) (by decide)⟩, fun _ h => absurd h List.not_mem_nil⟩
  | s :: S, X, a, nd, h => by
    by_cases hz : ∀ x ∈ X, a x s = 0
    · obtain ⟨c, h1, h2⟩ := kern S X a nd (by rw [List.length_cons] at h; omega)
      refine ⟨c, h1, fun t ht => ?_⟩
      rcases List.mem_cons.mp ht with rfl | ht
      · exact su_zero fun x hx => by rw [hz x hx, Int.mul_zero]
      · exact h2 t ht
    · obtain ⟨x0, hx0, ha⟩ : ∃ x0, x0 ∈ X ∧ a x0 s ≠ 0 := by
        refine Classical.byContradiction fun hn => hz fun x hx => Classical.byContradiction fun e => hn ⟨x, hx, e⟩
      have pm := List.perm_cons_erase hx0
      have hl : S.length < (X.erase x0).length := by
        have := pm.length_eq
        rw [List.length_cons] at this h; omega
      obtain ⟨c, ⟨x1, hx1, hc⟩, h2⟩ := kern S (X.erase x0) (fun x t => a x0 s * a x t - a x s * a x0 t) (nd.erase x0) hl
      have no : x0 ∉ X.erase x0 := nd.not_mem_erase
      have ne : ∀ x ∈ X.erase x0, x ≠ x0 := fun x hx e => no (e ▸ hx)
      have key : ∀ t, su (fun x => (if x = x0 then - su (fun x => c x * a x s) (X.erase x0) else a x0 s * c x) * a x t) X = su (fun x => c x * (a x0 s * a x t - a x s * a x0 t)) (X.erase x0) := fun t => by
        rw [su_perm _ pm, su_cons, if_pos rfl]
        have e1 : su (fun x => (if x = x0 then - su (fun x => c x * a x s) (X.erase x0) else a x0 s * c x) * a x t) (X.erase x0) = su (fun x => a x0 s * (c x * a x t)) (X.erase x0) :=
          su_congr fun x hx => by rw [if_neg (ne x hx), Int.mul_assoc]
        have e2 : su (fun x => c x * (a x0 s * a x t - a x s * a x0 t)) (X.erase x0) = su (fun x => a x0 s * (c x * a x t) + (- a x0 t) * (c x * a x s)) (X.erase x0) :=
          su_congr fun x _ => by grind
        rw [e1, e2, su_add, su_mul, su_mul]
        grind
      refine ⟨fun x => if x = x0 then - su (fun x => c x * a x s) (X.erase x0) else a x0 s * c x, ⟨x1, List.mem_of_mem_erase hx1, ?_⟩, fun t ht => ?_⟩
      · show (if x1 = x0 then - su (fun x => c x * a x s) (X.erase x0) else a x0 s * c x1) ≠ 0
        rw [if_neg (ne x1 hx1)]
        exact fun e => by rcases Int.mul_eq_zero.mp e with e | e <;> contradiction
      · rw [key t]
        rcases List.mem_cons.mp ht with rfl | ht
        · exact su_zero fun x _ => by grind
        · exact h2 t ht
/-! the vectors -/
def uv (d a e c : Bool) : Int := if d then (if a then (if c then (if e then 1 else -1) else 1) else (if e = c then 0 else 1)) else (if a = c then 1 else 0)
def rv (d a e c : Bool) : Int := if d then (if a then (if e then (if c then 1 else 0) else (if c then -1 else 2)) else (if e then (if c then 0 else 1) else (if c then 1 else -1))) else (if a = c then 1 else 0)
def yv (d a e c : Bool) : Int := if d then (if a then (if e then (if c then 2 else 1) else (if c then 0 else 1)) else (if e then 1 else (if c then 1 else 0))) else (if a = c then 1 else 0)
theorem two_eq : ∀ d a e b f : Bool, rv d a e false * yv d b f false + rv d a e true * yv d b f true = uv d a e false * uv d b f false + uv d a e true * uv d b f true := by decide
def ten (f : Bool → Bool → Bool → Bool → Int) : List Bool → List Bool → List Bool → List Bool → Int
  | d :: D, a :: x, e :: I, c :: z => f d a e c * ten f D x I z
  | [], [], [], [] => 1
  | _, _, _, _ => 0
def dotp (f g : Bool → Bool → Bool → Bool → Int) : List Bool → List Bool → List Bool → List Bool → List Bool → Int
  | d :: D, a :: x, e :: I, b :: y, k :: J => (f d a e false * g d b k false + f d a e true * g d b k true) * dotp f g D x I y J
  | [], [], [], [], [] => 1
  | _, _, _, _, _ => 0
theorem dot (f g : Bool → Bool → Bool → Bool → Int) : ∀ {n : Nat} {D x I y J : List Bool}, D.length = n → x.length = n → I.length = n → y.length = n → J.length = n →
    su (fun z => ten f D x I z * ten g D y J z) (allL n) = dotp f g D x I y J
  | 0, [], [], [], [], [], _, _, _, _, _ => by show su _ [[]] = 1; rw [su_cons, su_nil]; rfl
  | n + 1, d :: D, a :: x, e :: I, b :: y, k :: J, h1, h2, h3, h4, h5 => by
    have ih := dot f g (n := n) (D := D) (x := x) (I := I) (y := y) (J := J) (by simpa using h1) (by simpa using h2) (by simpa using h3) (by simpa using h4) (by simpa using h5)
    show su _ ((allL n).map (false :: ·) ++ (allL n).map (true :: ·)) = _
    rw [su_app, su_map, su_map]
    have e1 : ∀ c : Bool, su (fun z => ten f (d :: D) (a :: x) (e :: I) (c :: z) * ten g (d :: D) (b :: y) (k :: J) (c :: z)) (allL n) = (f d a e c * g d b k c) * dotp f g D x I y J := fun c => by
      rw [← ih, ← su_mul]
      exact su_congr fun z _ => by
        show (f d a e c * ten f D x I z) * (g d b k c * ten g D y J z) = _
        grind
    show su (fun z => ten f (d :: D) (a :: x) (e :: I) (false :: z) * ten g (d :: D) (b :: y) (k :: J) (false :: z)) (allL n) + su (fun z => ten f (d :: D) (a :: x) (e :: I) (true :: z) * ten g (d :: D) (b :: y) (k :: J) (true :: z)) (allL n) = _
    rw [e1, e1, ← Int.add_mul]
    rfl
theorem dotp_eq : ∀ (D x I y J : List Bool), dotp rv yv D x I y J = dotp uv uv D x I y J
  | d :: D, a :: x, e :: I, b :: y, k :: J => by
    show (rv d a e false * yv d b k false + rv d a e true * yv d b k true) * dotp rv yv D x I y J = (uv d a e false * uv d b k false + uv d a e true * uv d b k true) * dotp uv uv D x I y J
    rw [two_eq, dotp_eq D x I y J]
  | [], [], [], [], [] => rfl
  | [], _ :: _, _, _, _ => rfl
  | [], [], _ :: _, _, _ => rfl
  | [], [], [], _ :: _, _ => rfl
  | [], [], [], [], _ :: _ => rfl
  | _ :: _, [], _, _, _ => rfl
  | _ :: _, _ :: _, [], _, _ => rfl
  | _ :: _, _ :: _, _ :: _, [], _ => rfl
  | _ :: _, _ :: _, _ :: _, _ :: _, [] => rfl
/-! they are independent -/
def subL : List Bool → List Bool → List (List Bool)
  | d :: D, a :: x => if d then (if a then (subL D x).map (false :: ·) else (subL D x).map (false :: ·) ++ (subL D x).map (true :: ·)) else (subL D x).map (a :: ·)
  | _, _ => [[]]
theorem subL_all : ∀ {n : Nat} {D x z : List Bool}, D.length = n → x.length = n → z ∈ subL D x → z ∈ allL n
  | 0, [], [], z, _, _, h => h
  | n + 1, d :: D, a :: x, z, h1, h2, h => by
    have ih : ∀ z ∈ subL D x, z ∈ allL n := fun z hz => subL_all (by simpa using h1) (by simpa using h2) hz
    have put : ∀ (c : Bool) z, z ∈ (subL D x).map (c :: ·) → z ∈ allL (n + 1) := fun c z hz => by
      obtain ⟨t, ht, rfl⟩ := List.mem_map.mp hz
      have := ih t ht
      show c :: t ∈ (allL n).map (false :: ·) ++ (allL n).map (true :: ·)
      cases c
      · exact List.mem_append.mpr (.inl (List.mem_map.mpr ⟨t, this, rfl⟩))
      · exact List.mem_append.mpr (.inr (List.mem_map.mpr ⟨t, this, rfl⟩))
    unfold subL at h
    cases d with
    | false => exact put a z h
    | true =>
      cases a with
      | true => exact put false z h
      | false =>
        rcases List.mem_append.mp h with h | h
        · exact put _ z h
        · exact put _ z h
def lv (d a0 a e : Bool) : Int := if d then (if a0 then uv d a e false else uv d a e false + uv d a e true) else uv d a e a0
def lten : List Bool → List Bool → List Bool → List Bool → Int
  | d :: D, a0 :: x0, a :: x, e :: I => lv d a0 a e * lten D x0 x I
  | [], [], [], [] => 1
  | _, _, _, _ => 0
theorem lten_eq : ∀ {n : Nat} {D x0 x I : List Bool}, D.length = n → x0.length = n → x.length = n → I.length = n → su (ten uv D x I) (subL D x0) = lten D x0 x I
  | 0, [], [], [], [], _, _, _, _ => by show su _ [[]] = 1; rw [su_cons, su_nil]; rfl
  | n + 1, d :: D, a0 :: x0, a :: x, e :: I, h1, h2, h3, h4 => by
    have ih := lten_eq (n := n) (D := D) (x0 := x0) (x := x) (I := I) (by simpa using h1) (by simpa using h2) (by simpa using h3) (by simpa using h4)
    have one : ∀ c : Bool, su (ten uv (d :: D) (a :: x) (e :: I)) ((subL D x0).map (c :: ·)) = uv d a e c * lten D x0 x I := fun c => by
      rw [su_map, ← ih, ← su_mul]; rfl
    show su (ten uv (d :: D) (a :: x) (e :: I)) (if d then (if a0 then (subL D x0).map (false :: ·) else (subL D x0).map (false :: ·) ++ (subL D x0).map (true :: ·)) else (subL D x0).map (a0 :: ·)) = (if d then (if a0 then uv d a e false else uv d a e false + uv d a e true) else uv d a e a0) * lten D x0 x I
    cases d with
    | false => exact one a0
    | true =>
      cases a0 with
      | true => exact one false
      | false =>
        show su (ten uv (true :: D) (a :: x) (e :: I)) ((subL D x0).map (false :: ·) ++ (subL D x0).map (true :: ·)) = (uv true a e false + uv true a e true) * lten D x0 x I
        rw [su_app, one, one, Int.add_mul]
def wt (x : List Bool) : Nat := (x.map fun b => if b then 1 else 0).sum
theorem lv_even : ∀ d a0 a e : Bool, lv d a0 a e % 2 = 0 ∨ a = a0 ∨ (a = false ∧ a0 = true) := by decide
theorem lv_one : ∀ d a e : Bool, lv d a a e = 1 := by decide
theorem lten_even : ∀ {n : Nat} {D x0 x I : List Bool}, D.length = n → x0.length = n → x.length = n → I.length = n → lten D x0 x I % 2 = 0 ∨ x = x0 ∨ wt x < wt x0
  | 0, [], [], [], [], _, _, _, _ => .inr (.inl rfl)
  | n + 1, d :: D, a0 :: x0, a :: x, e :: I, h1, h2, h3, h4 => by
    have ih := lten_even (n := n) (D := D) (x0 := x0) (x := x) (I := I) (by simpa using h1) (by simpa using h2) (by simpa using h3) (by simpa using h4)
    have w : ∀ (b : Bool) y, wt (b :: y) = (if b then 1 else 0) + wt y := fun b y => by unfold wt; rw [List.map_cons, List.sum_cons]
    show (lv d a0 a e * lten D x0 x I) % 2 = 0 ∨ _
    have ev : ∀ {p q : Int}, p % 2 = 0 → (p * q) % 2 = 0 := fun {p q} h => by rw [Int.mul_emod, h, Int.zero_mul]; rfl
    rcases lv_even d a0 a e with h | h
    · exact .inl (ev h)
    · rcases ih with h' | h'
      · exact .inl (by rw [Int.mul_comm]; exact ev h')
      · rw [w, w]
        rcases h with rfl | ⟨rfl, rfl⟩
        · rcases h' with rfl | h'
          · exact .inr (.inl rfl)
          · exact .inr (.inr (by omega))
        · rcases h' with rfl | h'
          · exact .inr (.inr (by simp))
          · exact .inr (.inr (by simp; omega))
theorem lten_one : ∀ {n : Nat} {D x I : List Bool}, D.length = n → x.length = n → I.length = n → lten D x x I = 1
  | 0, [], [], [], _, _, _ => rfl
  | n + 1, d :: D, a :: x, e :: I, h1, h2, h3 => by
    have ih := lten_one (n := n) (D := D) (x := x) (I := I) (by simpa using h1) (by simpa using h2) (by simpa using h3)
    show lv d a a e * lten D x x I = 1
    rw [lv_one, ih]; rfl
/-- a flock: bodies apart, of n letters -/
structure Flock (n : Nat) (X : List (List Bool × List Bool)) : Prop where
  nd : (X.map (·.1)).Nodup
  l1 : ∀ p ∈ X, p.1.length = n
  l2 : ∀ p ∈ X, p.2.length = n
theorem nd_of_map {α β : Type} {f : α → β} : ∀ {l : List α}, (l.map f).Nodup → l.Nodup
  | [], _ => List.nodup_nil
  | a :: l, h => by
    rw [List.map_cons, List.nodup_cons] at h
    rw [List.nodup_cons]
    exact ⟨fun ha => h.1 (List.mem_map.mpr ⟨a, ha, rfl⟩), nd_of_map h.2⟩
theorem map_inj {α β : Type} {f : α → β} : ∀ {l : List α}, (l.map f).Nodup → ∀ {a b : α}, a ∈ l → b ∈ l → f a = f b → a = b
  | [], _, _, _, h, _, _ => absurd h List.not_mem_nil
  | c :: l, h, a, b, ha, hb, e => by
    rw [List.map_cons, List.nodup_cons] at h
    rcases List.mem_cons.mp ha with e1 | ha1
    · rcases List.mem_cons.mp hb with e2 | hb1
      · rw [e1, e2]
      · rw [← e1] at h
        exact absurd (List.mem_map.mpr ⟨b, hb1, e.symm⟩) h.1
    · rcases List.mem_cons.mp hb with e2 | hb1
      · rw [← e2] at h
        exact absurd (List.mem_map.mpr ⟨a, ha1, e⟩) h.1
      · exact map_inj h.2 ha1 hb1 e
theorem all_even {n : Nat} {D : List Bool} (hD : D.length = n) {X : List (List Bool × List Bool)} (F : Flock n X) {c : List Bool × List Bool → Int} (h : ∀ z ∈ allL n, su (fun p => c p * ten uv D p.1 p.2 z) X = 0) :
    ∀ (k : Nat), ∀ p ∈ X, wt p.1 < k → c p % 2 = 0
  | 0, _, _, hk => absurd hk (Nat.not_lt_zero _)
  | k + 1, p0, hp0, hk => by
    have ih := all_even hD F h k
    have e0 : su (fun p => c p * lten D p0.1 p.1 p.2) X = 0 := by
      have e1 : su (fun p => c p * lten D p0.1 p.1 p.2) X = su (fun p => su (fun z => c p * ten uv D p.1 p.2 z) (subL D p0.1)) X := su_congr fun p hp => by
        rw [su_mul, lten_eq hD (F.l1 p0 hp0) (F.l1 p hp) (F.l2 p hp)]
      rw [e1, su_swap]
      exact su_zero fun z hz => h z (subL_all hD (F.l1 p0 hp0) hz)
    have pm := List.perm_cons_erase hp0
    have nd := nd_of_map F.nd
    rw [su_perm _ pm, su_cons, lten_one hD (F.l1 p0 hp0) (F.l2 p0 hp0), Int.mul_one] at e0
    have ev : ∀ l : List (List Bool × List Bool), (∀ p ∈ l, (c p * lten D p0.1 p.1 p.2) % 2 = 0) → su (fun p => c p * lten D p0.1 p.1 p.2) l % 2 = 0 := fun l hl => by
      induction l with
      | nil => rfl
      | cons a l ihl =>
        rw [su_cons]
        have h1 := hl a List.mem_cons_self
        have h2 := ihl fun x hx => hl x (List.mem_cons_of_mem _ hx)
        omega
    have e2 := ev (X.erase p0) fun p hp => by
      have hpX := List.mem_of_mem_erase hp
      have ne : p ≠ p0 := fun e => nd.not_mem_erase (e ▸ hp)
      rcases lten_even hD (F.l1 p0 hp0) (F.l1 p hpX) (F.l2 p hpX) with h' | h' | h'
      · rw [Int.mul_emod, h', Int.mul_zero]; rfl
      · exact absurd (map_inj F.nd hpX hp0 h') ne
      · rw [Int.mul_emod, ih p hpX (by omega), Int.zero_mul]; rfl
    omega
theorem indep {n : Nat} {D : List Bool} (hD : D.length = n) {X : List (List Bool × List Bool)} (F : Flock n X) : ∀ (N : Nat) (c : List Bool × List Bool → Int), (∀ p ∈ X, (c p).natAbs ≤ N) → (∀ z ∈ allL n, su (fun p => c p * ten uv D p.1 p.2 z) X = 0) → ∀ p ∈ X, c p = 0
  | 0, c, hN, _, p, hp => by have := hN p hp; omega
  | N + 1, c, hN, h, p, hp => by
    have ev : ∀ p ∈ X, c p % 2 = 0 := fun p hp => all_even hD F h _ p hp (Nat.lt_succ_self _)
    have ih := indep hD F N (fun p => c p / 2) (fun p hp => by have := hN p hp; have := ev p hp; omega) fun z hz => by
      have e1 : su (fun p => c p * ten uv D p.1 p.2 z) X = 2 * su (fun p => (c p / 2) * ten uv D p.1 p.2 z) X := by
        rw [← su_mul]
        exact su_congr fun p hp => by
          have : c p = 2 * (c p / 2) := by have := ev p hp; omega
          have e : c p * ten uv D p.1 p.2 z = (2 * (c p / 2)) * ten uv D p.1 p.2 z := by rw [← this]
          rw [e, Int.mul_assoc]
      have := h z hz
      omega
    have := ih p hp
    have := ev p hp
    omega
/-! the flock's theorem -/
theorem flock {n : Nat} {D : List Bool} (hD : D.length = n) {X : List (List Bool × List Bool)} (F : Flock n X) {S : List (List Bool)}
    (hS : ∀ z ∈ allL n, (∃ p ∈ X, ten rv D p.1 p.2 z ≠ 0) → (∃ q ∈ X, ten yv D q.1 q.2 z ≠ 0) → z ∈ S) : X.length ≤ S.length := by
  refine Nat.le_of_not_lt fun hlt => ?_
  obtain ⟨c, ⟨p1, hp1, hc⟩, h⟩ := kern S X (fun p z => ten rv D p.1 p.2 z) (nd_of_map F.nd) hlt
  have e1 : ∀ q ∈ X, su (fun p => c p * su (fun z => ten uv D p.1 p.2 z * ten uv D q.1 q.2 z) (allL n)) X = 0 := fun q hq => by
    have e2 : su (fun p => c p * su (fun z => ten uv D p.1 p.2 z * ten uv D q.1 q.2 z) (allL n)) X = su (fun p => su (fun z => (c p * ten rv D p.1 p.2 z) * ten yv D q.1 q.2 z) (allL n)) X := su_congr fun p hp => by
      rw [dot uv uv hD (F.l1 p hp) (F.l2 p hp) (F.l1 q hq) (F.l2 q hq), ← dotp_eq, ← dot rv yv hD (F.l1 p hp) (F.l2 p hp) (F.l1 q hq) (F.l2 q hq), ← su_mul]
      exact su_congr fun z _ => (Int.mul_assoc _ _ _).symm
    rw [e2, su_swap]
    refine su_zero fun z hz => ?_
    rw [su_mul']
    by_cases hy : ten yv D q.1 q.2 z = 0
    · rw [hy, Int.mul_zero]
    · by_cases hr : ∃ p ∈ X, ten rv D p.1 p.2 z ≠ 0
      · rw [h z (hS z hz hr ⟨q, hq, hy⟩), Int.zero_mul]
      · rw [su_zero fun p hp => by rw [Classical.byContradiction fun e => hr ⟨p, hp, e⟩, Int.mul_zero], Int.zero_mul]
  have e3 : su (fun z => su (fun p => c p * ten uv D p.1 p.2 z) X * su (fun p => c p * ten uv D p.1 p.2 z) X) (allL n) = 0 := by
    have e4 : su (fun z => su (fun p => c p * ten uv D p.1 p.2 z) X * su (fun p => c p * ten uv D p.1 p.2 z) X) (allL n) = su (fun z => su (fun q => (su (fun p => c p * ten uv D p.1 p.2 z) X) * (c q * ten uv D q.1 q.2 z)) X) (allL n) :=
      su_congr fun z _ => (su_mul _ _ _).symm
    rw [e4, su_swap]
    refine su_zero fun q hq => ?_
    have e5 : su (fun z => su (fun p => c p * ten uv D p.1 p.2 z) X * (c q * ten uv D q.1 q.2 z)) (allL n) = c q * su (fun z => su (fun p => (c p * ten uv D p.1 p.2 z) * ten uv D q.1 q.2 z) X) (allL n) := by
      rw [← su_mul]
      exact su_congr fun z _ => by rw [su_mul']; grind
    rw [e5, su_swap]
    have e6 := e1 q hq
    have e7 : su (fun p => su (fun z => (c p * ten uv D p.1 p.2 z) * ten uv D q.1 q.2 z) (allL n)) X = 0 := by
      rw [← e6]
      exact su_congr fun p _ => by
        rw [← su_mul]
        exact su_congr fun z _ => Int.mul_assoc _ _ _
    rw [e7, Int.mul_zero]
  have e8 := su_sq e3
  refine hc (indep hD F ((X.map fun p => (c p).natAbs).sum) c (fun p hp => ?_) e8 p1 hp1)
  have le : ∀ (l : List Nat) (k : Nat), k ∈ l → k ≤ l.sum := fun l k hk => by
    induction l with
    | nil => exact absurd hk List.not_mem_nil
    | cons a l ih =>
      rw [List.sum_cons]
      rcases List.mem_cons.mp hk with h | h
      · omega
      · have := ih h; omega
  exact le _ _ (List.mem_map.mpr ⟨p, hp, rfl⟩)
/-! shown and boxes -/
/-- z is as x on I -/
def agr : List Bool → List Bool → List Bool → Bool
  | e :: I, a :: x, c :: z => (!e || a == c) && agr I x z
  | [], [], [] => true
  | _, _, _ => false
theorem rv_agr : ∀ {D x I z : List Bool}, ten rv D x I z ≠ 0 → agr I x z = true
  | d :: D, a :: x, e :: I, c :: z, h => by
    have h : rv d a e c * ten rv D x I z ≠ 0 := h
    have h1 : rv d a e c ≠ 0 := fun q => h (by rw [q, Int.zero_mul])
    have h2 : ten rv D x I z ≠ 0 := fun q => h (by rw [q, Int.mul_zero])
    show ((!e || a == c) && agr I x z) = true
    rw [rv_agr h2, Bool.and_true]
    have k : ∀ d a e c : Bool, rv d a e c ≠ 0 → (!e || a == c) = true := by decide
    exact k d a e c h1
  | [], [], [], [], _ => rfl
  | [], _ :: _, _, _, h => absurd rfl h
  | [], [], _ :: _, _, h => absurd rfl h
  | [], [], [], _ :: _, h => absurd rfl h
  | _ :: _, [], _, _, h => absurd rfl h
  | _ :: _, _ :: _, [], _, h => absurd rfl h
  | _ :: _, _ :: _, _ :: _, [], h => absurd rfl h
def xr : List Bool → List Bool → List Bool
  | d :: D, c :: z => (d ^^ c) :: xr D z
  | _, _ => []
theorem yv_agr : ∀ {D x I z : List Bool}, ten yv D x I z ≠ 0 → agr (no' I) x (xr D z) = true
  | d :: D, a :: x, e :: I, c :: z, h => by
    have h : yv d a e c * ten yv D x I z ≠ 0 := h
    have h1 : yv d a e c ≠ 0 := fun q => h (by rw [q, Int.zero_mul])
    have h2 : ten yv D x I z ≠ 0 := fun q => h (by rw [q, Int.mul_zero])
    show ((!(!e) || a == (d ^^ c)) && agr (no' I) x (xr D z)) = true
    rw [yv_agr h2, Bool.and_true]
    have k : ∀ d a e c : Bool, yv d a e c ≠ 0 → (!(!e) || a == (d ^^ c)) = true := by decide
    exact k d a e c h1
  | [], [], [], [], _ => rfl
  | [], _ :: _, _, _, h => absurd rfl h
  | [], [], _ :: _, _, h => absurd rfl h
  | [], [], [], _ :: _, h => absurd rfl h
  | _ :: _, [], _, _, h => absurd rfl h
  | _ :: _, _ :: _, [], _, h => absurd rfl h
  | _ :: _, _ :: _, _ :: _, [], h => absurd rfl h
theorem xr_len : ∀ {n : Nat} {D z : List Bool}, D.length = n → z.length = n → (xr D z).length = n
  | 0, [], [], _, _ => rfl
  | n + 1, d :: D, c :: z, h1, h2 => by
    show (xr D z).length + 1 = n + 1
    rw [xr_len (n := n) (by simpa using h1) (by simpa using h2)]
theorem xr_xr : ∀ {n : Nat} {D z : List Bool}, D.length = n → z.length = n → xr (xr D z) z = D
  | 0, [], [], _, _ => rfl
  | n + 1, d :: D, c :: z, h1, h2 => by
    show ((d ^^ c) ^^ c) :: xr (xr D z) z = _
    rw [xr_xr (n := n) (by simpa using h1) (by simpa using h2)]
    cases d <;> cases c <;> rfl
/-- all pairs, counted by how they differ -/
theorem count {n : Nat} (hn : (allL n).Nodup) (A B : List Bool → Bool) : sm (fun D => sm (fun z => if A z && B (xr D z) then 1 else 0) (allL n)) (allL n) = ((allL n).filter A).length * ((allL n).filter B).length := by
  have sw : ∀ (f : List Bool → List Bool → Nat) (l m : List (List Bool)), sm (fun x => sm (f x) m) l = sm (fun y => sm (fun x => f x y) l) m := fun f l m => by
    induction l with
    | nil =>
      show 0 = sm (fun y => 0) m
      induction m with
      | nil => rfl
      | cons a m ih => show 0 = 0 + sm (fun y => 0) m; omega
    | cons a l ih =>
      show sm (f a) m + sm (fun x => sm (f x) m) l = _
      rw [ih, ← sm_add]
      rfl
  rw [sw]
  have e1 : ∀ z ∈ allL n, sm (fun D => if A z && B (xr D z) then 1 else 0) (allL n) = (if A z then 1 else 0) * ((allL n).filter B).length := fun z hz => by
    cases hA : A z with
    | false =>
      have : ∀ l : List (List Bool), sm (fun D => if false && B (xr D z) then 1 else 0) l = 0 := fun l => by
        induction l with
        | nil => rfl
        | cons a l ih => show 0 + sm _ l = 0; rw [ih]
      rw [this]; simp
    | true =>
      have e2 : sm (fun D => if true && B (xr D z) then 1 else 0) (allL n) = sm (fun y => if B y then 1 else 0) ((allL n).map fun D => xr D z) := by rw [sm_map]; rfl
      rw [e2]
      have lz := allL_len hz
      have pm : ((allL n).map fun D => xr D z).Perm (allL n) := by
        refine (List.perm_ext_iff_of_nodup ?_ hn).mpr fun y => ?_
        · refine List.pairwise_map.mpr (hn.imp_of_mem fun {a b} ha hb ne e => ne ?_)
          rw [← xr_xr (allL_len ha) lz, ← xr_xr (allL_len hb) lz, e]
        · rw [List.mem_map]
          constructor
          · rintro ⟨D, hD, rfl⟩
            exact mem_allL (xr_len (allL_len hD) lz)
          · intro hy
            exact ⟨xr y z, mem_allL (xr_len (allL_len hy) lz), xr_xr (allL_len hy) lz⟩
      rw [sm_perm _ pm, sm_len]; simp
  have e3 : sm (fun y => sm (fun x => if A y && B (xr x y) then 1 else 0) (allL n)) (allL n) = sm (fun z => (if A z then 1 else 0) * ((allL n).filter B).length) (allL n) := by
    have key : ∀ l : List (List Bool), (∀ z ∈ l, z ∈ allL n) → sm (fun y => sm (fun x => if A y && B (xr x y) then 1 else 0) (allL n)) l = sm (fun z => (if A z then 1 else 0) * ((allL n).filter B).length) l := fun l hl => by
      induction l with
      | nil => rfl
      | cons a l ih =>
        have h1 := e1 a (hl a List.mem_cons_self)
        have h2 := ih fun z hz => hl z (List.mem_cons_of_mem _ hz)
        show sm (fun x => if A a && B (xr x a) then 1 else 0) (allL n) + sm _ l = (if A a then 1 else 0) * ((allL n).filter B).length + sm _ l
        rw [h1, h2]
    exact key _ fun _ h => h
  rw [e3]
  have mulr : ∀ (f : List Bool → Nat) (k : Nat) (l : List (List Bool)), sm (fun z => f z * k) l = sm f l * k := fun f k l => by
    induction l with
    | nil => show 0 = 0 * k; omega
    | cons a l ih =>
      show f a * k + sm (fun z => f z * k) l = (f a + sm f l) * k
      rw [ih, Nat.add_mul]
  rw [mulr, sm_len]
/-- Reimer's inequality -/
theorem box {n : Nat} (hn : (allL n).Nodup) (A B : List Bool → Bool) {X : List (List Bool)} (nX : X.Nodup) (hX : ∀ x ∈ X, x ∈ allL n)
    (h : ∀ x ∈ X, ∃ I, I ∈ allL n ∧ (∀ z ∈ allL n, agr I x z = true → A z = true) ∧ ∀ z ∈ allL n, agr (no' I) x z = true → B z = true) :
    X.length * (allL n).length ≤ ((allL n).filter A).length * ((allL n).filter B).length := by
  rw [← count hn]
  let I : List Bool → List Bool := fun x => if hx : x ∈ X then Classical.choose (h x hx) else []
  have hI : ∀ x ∈ X, I x ∈ allL n ∧ (∀ z ∈ allL n, agr (I x) x z = true → A z = true) ∧ ∀ z ∈ allL n, agr (no' (I x)) x z = true → B z = true := fun x hx => by
    have e : I x = Classical.choose (h x hx) := dif_pos hx
    rw [e]
    exact Classical.choose_spec (h x hx)
  have F : Flock n (X.map fun x => (x, I x)) := by
    refine ⟨?_, fun p hp => ?_, fun p hp => ?_⟩
    · rw [List.map_map]
      have : ((fun p : List Bool × List Bool => p.1) ∘ fun x => (x, I x)) = id := rfl
      rw [this, List.map_id]; exact nX
    · obtain ⟨x, hx, rfl⟩ := List.mem_map.mp hp
      exact allL_len (hX x hx)
    · obtain ⟨x, hx, rfl⟩ := List.mem_map.mp hp
      exact allL_len (hI x hx).1
  have one : ∀ D ∈ allL n, X.length ≤ sm (fun z => if A z && B (xr D z) then 1 else 0) (allL n) := fun D hD => by
    rw [sm_len]
    have := flock (allL_len hD) F (S := (allL n).filter fun z => A z && B (xr D z)) fun z hz ⟨p, hp, h1⟩ ⟨q, hq, h2⟩ => by
      obtain ⟨x, hx, rfl⟩ := List.mem_map.mp hp
      obtain ⟨y, hy, rfl⟩ := List.mem_map.mp hq
      refine List.mem_filter.mpr ⟨hz, ?_⟩
      rw [(hI x hx).2.1 z hz (rv_agr h1), (hI y hy).2.2 _ (mem_allL (xr_len (allL_len hD) (allL_len hz))) (yv_agr h2)]
      rfl
    rwa [List.length_map] at this
  have le : ∀ l : List (List Bool), (∀ D ∈ l, X.length ≤ sm (fun z => if A z && B (xr D z) then 1 else 0) (allL n)) → X.length * l.length ≤ sm (fun D => sm (fun z => if A z && B (xr D z) then 1 else 0) (allL n)) l := fun l hl => by
    induction l with
    | nil => exact Nat.zero_le _
    | cons D l ih =>
      have h1 := hl D List.mem_cons_self
      have h2 := ih fun D hD => hl D (List.mem_cons_of_mem _ hD)
      show X.length * (l.length + 1) ≤ sm (fun z => if A z && B (xr D z) then 1 else 0) (allL n) + sm _ l
      rw [Nat.mul_add]; omega
  exact le _ one
end Reim

set_option Elab.async false
set_option linter.all false
set_option maxRecDepth 100000
set_option maxHeartbeats 4000000
namespace DL
open PySem PySem.Spec PyProof.Rows L2 STx OrdS

/-! ### instances in the store -/
theorem StR.newI {K : PySem.W.Frag} {H H0 : Hp} {S : Sto} (st : StR K H H0 S) {x dx : Addr} (hx : H x = none) (hd : H dx = none) (ne : dx ≠ x) (c : Str) :
    StR K (upd (upd H dx (.own x)) x (.ins (He.ga K c) dx [])) H0 (S.up x (.ins c [])) ∧ Grow H H0 S (upd (upd H dx (.own x)) x (.ins (He.ga K c) dx [])) H0 (S.up x (.ins c [])) ∧ S x = none := by
  obtain ⟨stA, grA, _, _⟩ := alloc_n st hd (.own x)
  have hx1 : upd H dx (.own x) x = none := by rw [upd_ne (Ne.symm ne)]; exact hx
  obtain ⟨stB, grB, n0, nS⟩ := alloc_n stA hx1 (.ins (He.ga K c) dx [])
  exact ⟨stB.newS n0 (m' := .ins c []) ⟨dx, [], upd_same, rfl, .nil⟩, (grA.trans stA grB).newS hx, nS⟩
/-- a def's promise without a number of parameters -/
def SpA (K : PySem.W.Frag) (F : List D → T D) : Sp := fun vs H Q E => ∃ ds S H0 Qd Ed, StR K H H0 S ∧ Rps K H0 vs ds ∧ F ds S Qd Ed ∧
  (∀ d S', Qd d S' → ∀ v H' H0', StR K H' H0' S' → Grow H H0 S H' H0' S' → Rp K H0' v d → Q v H') ∧ ∀ x S', Ed x S' → EX K E H H0 S x S'
/-- a def that stands at f -/
structure OkM (P : Program) (w : World) (K : PySem.W.Frag) (mg : Str → Option Value) (base : Heap) (k : Nat) (f : Addr) (F : List D → T D) : Prop where
  fn : FnR P w K mg base (L2.CX P w) k f (SpA K F)
def needN (n : Nat) (F : List D → T D) : List D → T D := fun ds => T.bind (dNeed (ds.length = n)) fun _ => F ds
def starF (n : Nat) (F : List D → T D) : List D → T D := fun ds => T.bind (dNeed (n ≤ ds.length ∧ (ds.drop n).length ≤ sizeLine)) fun _ => F (ds.take n ++ [.tup (ds.drop n)])
section
variable {P : Program} {w : World} {K : PySem.W.Frag} {mg : Str → Option Value} {base : Heap}
theorem OkM.mono {j k : Nat} {f : Addr} {F : List D → T D} (O : OkM P w K mg base j f F) (h : j ≤ k) : OkM P w K mg base k f F := ⟨O.fn.mono h⟩
/-- a def of a class: its promise by number -/
theorem mk_okn {x qual : Str} {st : Stmt} {f : Addr} {N ps : List Str} {k : Nat} {F : List D → T D} {m : MS} (Fn : ∃ fd, FnP K x qual st f fd) (Sc : FnScope N ps (defScope st))
    (hb : ∀ (kV doc pm : Value) (an : Option Addr) (cdv ct : Value) (us : List Value), us.length = ps.length → bindArgs (PySem.W.fnOf x qual (defArgs st) (defBody st) (defScope st) .none kV doc pm an cdv ct) ⟨us, []⟩ = pure (ps.zip us))
    (hbody : ∀ (cdv : Value) (A : Around) (outer : List Env) (s : Shared) (H : Hp) (E : XK) (b : Bs), Room k (bodyCx P w K mg base N qual st f cdv A outer s H E).A → XSs (bodyCx P w K mg base N qual st f cdv A outer s H E) E b (defBody st) m)
    (hF : ∀ ds S Qd Ed, ds.length = ps.length → F ds S Qd Ed → runD m N.length ds S Qd Ed) : ∃ fd, FnOk P w K mg base (L2.CX P w) (k + 1) f fd ps (SpT K ps.length F) ∧ L2.Binds K fd ps [] := by
  obtain ⟨fd, Fn⟩ := Fn
  have bi := FunD.bindsN Fn hb
  exact ⟨fd, mk_fn Fn Sc rfl hbody hF, bi⟩
theorem okm_of {f : Addr} {ps : List Str} {k : Nat} {F : List D → T D} (h : ∃ fd, FnOk P w K mg base (L2.CX P w) k f fd ps (SpT K ps.length F) ∧ L2.Binds K fd ps []) : OkM P w K mg base k f (needN ps.length F) := by
  obtain ⟨fd, G, b⟩ := h
  refine ⟨(G.raw b .nil).imp fun vs H Q E z => ?_⟩
  obtain ⟨ds, S, H0, Qd, Ed, st, r, ⟨hl, hf⟩, hq, he⟩ := z
  rw [List.append_nil]
  exact ⟨ds, S, H0, Qd, Ed, st, r, hl, hf, hq, he⟩
theorem Rps.split {H : Hp} : ∀ (n : Nat) {vs : List V} {ds : List D}, Rps K H vs ds → Rps K H (vs.take n) (ds.take n) ∧ Rps K H (vs.drop n) (ds.drop n) := fun n _ _ r => ⟨r.take n, r.drop n⟩
/-- def m(self, a, *v) -/
theorem okm_star {x qual pv : Str} {st : Stmt} {f : Addr} {N ps : List Str} {k : Nat} {F : List D → T D} {m : MS} (Fn : ∃ fd, FnP K x qual st f fd) (Sc : FnScope N (ps ++ [pv]) (defScope st))
    (hb : ∀ (kV doc pm : Value) (an : Option Addr) (cdv ct : Value) (us rest : List Value), us.length = ps.length → bindArgs (PySem.W.fnOf x qual (defArgs st) (defBody st) (defScope st) .none kV doc pm an cdv ct) ⟨us ++ rest, []⟩ = (newTuple rest >>= fun t => pure (ps.zip us ++ [(pv, t)])))
    (hbody : ∀ (cdv : Value) (A : Around) (outer : List Env) (s : Shared) (H : Hp) (E : XK) (b : Bs), Room k (bodyCx P w K mg base N qual st f cdv A outer s H E).A → XSs (bodyCx P w K mg base N qual st f cdv A outer s H E) E b (defBody st) m)
    (hF : ∀ ds S Qd Ed, ds.length = ps.length + 1 → F ds S Qd Ed → runD m N.length ds S Qd Ed) : OkM P w K mg base (k + 1) f (starF ps.length F) := by
  obtain ⟨fd, Fn⟩ := Fn
  obtain ⟨oc, od, dV, kV, doc, pm, an, cdv, ct, osl, rfl, lk, hcd, hdv, _⟩ := Fn.ex
  have hdN : dV = .none := by
    rcases hdv with ⟨_, h⟩ | ⟨h, _⟩
    · exact h
    · exact absurd rfl h
  subst hdN
  have G := StX.fn_star (k := k) (ps := ps) (pv := pv) (sp := SpT K (ps.length + 1) F) lk hcd Sc (StX.cxUp (P := P) (w := w)) (hb kV doc pm an cdv ct) (fun A outer s H vs Q E hr h => by
    obtain ⟨ds, S, H0, Qd, Ed, st', r, hl, hf, hq, he⟩ := h
    refine ⟨_, hbody cdv A outer s H E ⟨H, H0, S⟩ hr, startG N.length ds, S, H0, _, Ed, relB_start st' r, hF ds S Qd Ed hl hf, fun o S' q => ?_, he⟩
    cases o with
    | nx g => exact fun σ' H' H0' r' _ => hq _ S' q _ H' H0' r'.rel.st r'.gb .non
    | rt d => exact fun v H' H0' st2 gr2 rv => hq _ S' q v H' H0' st2 gr2 rv
    | bk g => exact q.elim
    | ct g => exact q.elim)
  refine ⟨G.imp fun vs H Q E z => ?_⟩
  obtain ⟨ds, S, H0, Qd, Ed, st, r, ⟨⟨hl, hz⟩, hf⟩, hq, he⟩ := z
  have rl := r.length
  refine ⟨vs.take ps.length, vs.drop ps.length, (List.take_append_drop _ _).symm, by rw [List.length_take]; omega, by rw [List.length_drop] at hz ⊢; omega, fun p hp => ?_⟩
  obtain ⟨st2, gr2⟩ := alloc_f st hp (.tup (vs.drop ps.length))
  refine ⟨ds.take ps.length ++ [.tup (ds.drop ps.length)], S, _, Qd, Ed, st2, ((r.take _).sub gr2.sub).append (.cons (.tup (.of upd_same) ((r.drop _).sub gr2.sub)) .nil), ?_, hf, fun d S' q v H' H0' st' gr' rv => hq d S' q v H' H0' st' (gr2.trans st2 gr') rv, fun y S' ey => (he y S' ey).grow st2 gr2⟩
  rw [List.length_append, List.length_take, Nat.min_eq_left hl]; rfl
end
/-! ### making an instance -/
def mkT (c : Str) (F : List D → T D) (ds : List D) : T D := fun S Q E => ∀ x, S x = none → F (.ref x :: ds) (S.up x (.ins c [])) (fun d S' => d = .non ∧ Q (.ref x) S') E
theorem mkT_sp {K : PySem.W.Frag} {E : XK} {c : Str} {F : List D → T D} {H1 H01 : Hp} {S1 : Sto} {vs : List V} {ds : List D} {Qd : D → Sto → Prop} {Ed : Xn → Sto → Prop} {Q : VK} (st1 : StR K H1 H01 S1) (r1 : Rps K H01 vs ds) (hf : mkT c F ds S1 Qd Ed)
    (hq : ∀ d S', Qd d S' → ∀ v H' H0', StR K H' H0' S' → Grow H1 H01 S1 H' H0' S' → Rp K H0' v d → Q v H') (he : ∀ x S', Ed x S' → EX K E H1 H01 S1 x S') (x dx : Addr) (hx : H1 x = none) (hd : H1 dx = none) (ne : dx ≠ x) :
    SpA K F (.ref x :: vs) (upd (upd H1 dx (.own x)) x (.ins (He.ga K c) dx [])) (fun v H2 => v = .non ∧ Q (.ref x) H2) E := by
  obtain ⟨st2, gr2, nS⟩ := st1.newI hx hd ne c
  refine ⟨.ref x :: ds, _, H01, _, Ed, st2, .cons (.ref x) r1, hf x nS, fun d S' h v H' H0' st' gr' rv => ?_, fun y S' ey => (he y S' ey).grow st2 gr2⟩
  obtain ⟨rfl, h⟩ := h
  cases rv
  exact ⟨rfl, hq _ S' h _ H' H0' st' (gr2.trans st2 gr') (.ref x)⟩
section
variable {X : Cx} {j k : Nat} {E : XK} {c x : Str} {f : Addr} {F : List D → T D} {p pos : Pos} {e : Expr} {es : List Expr} {m : MA}
theorem x_make (M : Mk X.K (He.ga X.K c) f) (O : OkM X.prog X.w X.K X.mg X.base j f F) (hm : X.mg c = some (.ref (He.ga X.K c))) (hr : Room k X.A) (hj : j + 1 ≤ k) (hx : Passes (L2.CX X.prog X.w) X E) (ha : XA X E (e :: es) m) (hg : Gl X c := by rfl)
    (hdb : (c == ("__debug__" : Str)) = false := by decide) (he : starEach (e :: es) X.env = (false, eval e X.env) :: starEach es X.env := by rfl) (hpl : (backTo pos (starEach es X.env)).any (·.1) = false := by rfl) :
    XE X E (.Call (.Name c p) (e :: es) [] pos) (fun g => T.bind (m g) (mkT c F)) := by
  refine pe_w (StX.pe_makeR M O.fn (hr.mono hj) hg hm hx ha hdb he hpl) fun σ H Q ⟨g, S, H0, Qd, Ed, rel, hm, hq, hexc⟩ => ?_
  exact ⟨g, S, H0, _, Ed, rel, hm, fun ds S1 hf vs H1 H01 st1 gr1 r1 => mkT_sp st1 r1 hf (fun d S' h v H' H0' st' gr' rv => hq d S' h v H' H0' st' (gr1.trans st1 gr') rv) fun y S' ey => (hexc y S' ey).grow st1 gr1, hexc⟩
/-- C(a, *b), by the module's name -/
theorem x_makeS (M : Mk X.K (He.ga X.K c) f) (O : OkM X.prog X.w X.K X.mg X.base j f F) (hm : X.mg c = some (.ref (He.ga X.K c))) (hr : Room k X.A) (hj : j + 1 ≤ k) (hx : Passes (L2.CX X.prog X.w) X E) (ha : XA X E (e :: es) m) (hg : Gl X c := by rfl)
    (hdb : (c == ("__debug__" : Str)) = false := by decide) (he : starEach (e :: es) X.env = (false, eval e X.env) :: starEach es X.env := by rfl) (hst : (backTo pos (starEach es X.env)).any (·.1) = true := by rfl) :
    XE X E (.Call (.Name c p) (e :: es) [] pos) (fun g => T.bind (m g) (mkT c F)) := by
  refine ⟨fun pins s σ H Q I ⟨g, S, H0, Qd, Ed, rel, hm2, hq, hexc⟩ => wpAny_Call_Name_kw (ld_glob I hg hm (PySem.W.callWith_S2 (h₀ := X.base) I.ok.mod.kin M.kp (thn (ha.run pos pins s σ H (fun vs H1 => ∀ x dx, H1 x = none → H1 dx = none → dx ≠ x →
    SpA X.K F (.ref x :: vs) (upd (upd H1 dx (.own x)) x (.ins (He.ga X.K c) dx [])) (fun v H2 => v = .non ∧ Q (.ref x) H2) E) I ?_) fun us s1 ⟨vs, H1, I1, r, q⟩ => ⟨I1.kIn, StX.run_makeR M O.fn (hr.mono hj) hx I1 r q⟩) he hst) hdb)⟩
  exact ⟨g, S, H0, _, Ed, rel, hm2, fun ds S1 hf vs H1 H01 st1 gr1 r1 => mkT_sp st1 r1 hf (fun d S' h v H' H0' st' gr' rv => hq d S' h v H' H0' st' (gr1.trans st1 gr') rv) fun y S' ey => (hexc y S' ey).grow st1 gr1, hexc⟩
/-- cls(a, *b), cls a local that holds the class -/
theorem x_makeL (i : Nat) (M : Mk X.K (He.ga X.K c) f) (O : OkM X.prog X.w X.K X.mg X.base j f F) (hr : Room k X.A) (hj : j + 1 ≤ k) (hx : Passes (L2.CX X.prog X.w) X E) (ha : XA X E (e :: es) m) (hN : X.N[i]? = some x := by rfl) (hv : Vis X.env.scope x := by first | exact Or.inl rfl | exact Or.inr (Or.inl rfl) | exact Or.inr (Or.inr rfl))
    (hdb : (x == ("__debug__" : Str)) = false := by decide) (hcd : (x == ("__classdict__" : Str)) = false := by decide) (he : starEach (e :: es) X.env = (false, eval e X.env) :: starEach es X.env := by rfl) (hst : (backTo pos (starEach es X.env)).any (·.1) = true := by rfl) :
    XE X E (.Call (.Name x p) (e :: es) [] pos) (fun g => T.bind (getv g i) fun d => T.bind (dNeed (d = .glo c)) fun _ => T.bind (m g) (mkT c F)) := by
  refine ⟨fun pins s σ H Q I ⟨g, S, H0, Qd, Ed, rel, hm2, hq, hexc⟩ => ?_⟩
  obtain ⟨d, hgi, rfl, hm2⟩ := getv_inv hm2
  obtain ⟨v, e1, rv⟩ := rel.sl i _ hgi
  cases rv
  refine wpAny_Call_Name_kw (thn ((pe_var (pos := p) hN hv hdb hcd).run pins s σ H (fun v H1 => v = .ref (He.ga X.K c) ∧ H1 = H) I ⟨_, e1, rfl, rfl⟩) fun u s0 ⟨v, H1, I1, ru, hv1, hH⟩ => ?_)
  subst hv1 hH
  cases ru
  refine PySem.W.callWith_S2 (h₀ := X.base) I.ok.mod.kin M.kp (thn (ha.run pos pins s0 σ _ (fun vs H1 => ∀ x dx, H1 x = none → H1 dx = none → dx ≠ x →
    SpA X.K F (.ref x :: vs) (upd (upd H1 dx (.own x)) x (.ins (He.ga X.K c) dx [])) (fun v H2 => v = .non ∧ Q (.ref x) H2) E) I1 ?_) fun us s1 ⟨vs, H1, I2, r, q⟩ => ⟨I2.kIn, StX.run_makeR M O.fn (hr.mono hj) hx I2 r q⟩) he hst
  exact ⟨g, S, H0, _, Ed, rel, hm2, fun ds S1 hf vs H1 H01 st1 gr1 r1 => mkT_sp st1 r1 hf (fun d S' h v H' H0' st' gr' rv => hq d S' h v H' H0' st' (gr1.trans st1 gr') rv) fun y S' ey => (hexc y S' ey).grow st1 gr1, hexc⟩
/-- f(.., *e) -/
def starD : D → T (List D)
  | .tup xs => T.pure xs
  | .lst xs => T.pure xs
  | _ => T.fail
theorem a_star {me : ME} {r : MA} (ha : XE X E e me) (hr : XA X E es r) (hs : starEach (.Starred e p :: es) X.env = (true, eval e X.env) :: starEach es X.env := by rfl) :
    XA X E (.Starred e p :: es) (fun g => T.bind (me g) fun d => T.bind (starD d) fun xs => T.bind (r g) fun ys => T.pure (xs ++ ys)) := by
  refine pa_w (StX.pa_star ha hr hs) fun σ H Q ⟨g, S, H0, Qd, Ed, rel, hm, hq, hexc⟩ => ?_
  refine ⟨g, S, H0, _, Ed, rel, hm, fun d S1 hf v H1 H01 st1 gr1 r1 => ?_, hexc⟩
  have go : ∀ (xs : List D) (vs : List V), Rps X.K H01 vs xs → T.bind (r g) (fun ys => T.pure (xs ++ ys)) S1 Qd Ed → la X.K E r σ H1 fun ys H2 => Q (vs ++ ys) H2 := fun xs vs rx hf => by
    refine ⟨g, S1, H01, _, Ed, rel.grow st1 gr1, hf, fun ys S2 h ws H2 H02 st2 gr2 r2 => ?_, fun y S' ey => (hexc y S' ey).grow st1 gr1⟩
    exact hq _ S2 h _ H2 H02 st2 (gr1.trans st1 gr2) ((rx.sub gr2.sub).append r2)
  cases d with
  | tup xs =>
    cases r1 with
    | tup h1 rx => exact ⟨_, _, rfl, .inl (sqT_sub st1.sub h1), go xs _ rx hf⟩
  | lst xs =>
    cases r1 with
    | lst h1 rx => exact ⟨_, _, rfl, .inr (.of (st1.sub _ _ h1)), go xs _ rx hf⟩
  | _ => exact hf.elim
end
/-! ### fields -/
def putD (f : Str) (v : D) : List (Str × D) → List (Str × D)
  | [] => [(f, v)]
  | (g, u) :: r => if g = f then (g, v) :: r else (g, u) :: putD f v r
end DL

set_option Elab.async false
set_option linter.all false
set_option maxRecDepth 100000
set_option maxHeartbeats 4000000
namespace DL
open PySem PySem.Spec PyProof.Rows L2 STx OrdS

/-! ### fields of instances in the store -/
theorem flds_lookup {K : PySem.W.Frag} {H0 : Hp} {f : Str} {d : D} : ∀ {vs : List (Str × V)} {fs : List (Str × D)}, vs.map (·.1) = fs.map (·.1) → Rps K H0 (vs.map (·.2)) (fs.map (·.2)) → fs.lookup f = some d → ∃ v, vs.lookup f = some v ∧ Rp K H0 v d
  | [], [], _, _, h => by cases h
  | [], _ :: _, h, _, _ => by cases h
  | _ :: _, [], h, _, _ => by cases h
  | (g, v) :: vs, (g', u) :: fs, hk, hr, h => by
    rw [List.map_cons, List.map_cons] at hk
    injection hk with e1 e2
    have e1 : g = g' := e1
    subst e1
    cases hr with
    | cons ra rr =>
      by_cases e : f = g
      · subst e
        simp [List.lookup] at h ⊢
        subst h
        exact ra
      · have e' : (f == g) = false := by simpa using e
        simp only [List.lookup, e'] at h ⊢
        exact flds_lookup e2 rr h
theorem flds_none {f : Str} : ∀ {vs : List (Str × V)} {fs : List (Str × D)}, vs.map (·.1) = fs.map (·.1) → fs.lookup f = none → vs.lookup f = none
  | [], [], _, _ => rfl
  | [], _ :: _, h, _ => by cases h
  | _ :: _, [], h, _ => by cases h
  | (g, v) :: vs, (g', u) :: fs, hk, h => by
    rw [List.map_cons, List.map_cons] at hk
    injection hk with e1 e2
    have e1 : g = g' := e1
    subst e1
    by_cases e : f = g
    · subst e
      simp [List.lookup] at h
    · have e' : (f == g) = false := by simpa using e
      simp only [List.lookup, e'] at h ⊢
      exact flds_none e2 h
theorem flds_put {K : PySem.W.Frag} {H0 : Hp} {f : Str} {w : V} {d : D} (rw_ : Rp K H0 w d) : ∀ {vs : List (Str × V)} {fs : List (Str × D)}, vs.map (·.1) = fs.map (·.1) → Rps K H0 (vs.map (·.2)) (fs.map (·.2)) →
    (putF f w vs).map (·.1) = (putD f d fs).map (·.1) ∧ Rps K H0 ((putF f w vs).map (·.2)) ((putD f d fs).map (·.2))
  | [], [], _, _ => ⟨rfl, .cons rw_ .nil⟩
  | [], _ :: _, h, _ => by cases h
  | _ :: _, [], h, _ => by cases h
  | (g, v) :: vs, (g', u) :: fs, hk, hr => by
    rw [List.map_cons, List.map_cons] at hk
    injection hk with e1 e2
    have e1 : g = g' := e1
    subst e1
    cases hr with
    | cons ra rr =>
      unfold putF putD
      by_cases e : g = f
      · rw [if_pos e, if_pos e]
        exact ⟨by rw [List.map_cons, List.map_cons, e2], .cons rw_ rr⟩
      · rw [if_neg e, if_neg e]
        obtain ⟨h1, h2⟩ := flds_put rw_ e2 rr
        exact ⟨by rw [List.map_cons, List.map_cons, h1], .cons ra h2⟩
/-- the instance at a is of the class c; its fields -/
def insOf {α : Type} (c : Str) (d : D) (f : Addr → List (Str × D) → T α) : T α := fun S Q E => ∃ a fs, d = .ref a ∧ S a = some (.ins c fs) ∧ f a fs S Q E
def dFld (c f : Str) (d : D) : T D := insOf c d fun _ fs => dOpt (fs.lookup f) T.pure
def setI (a : Addr) (m : MO) (g : Sg) : T Out := fun S Q _ => Q (.nx g) (S.up a m)
def dSetF (c f : Str) (o v : D) (g : Sg) : T Out := insOf c o fun a fs => T.bind (dNeed (fs.length < 1000)) fun _ => setI a (.ins c (putD f v fs)) g
section
variable {X : Cx} {E : XK} {b : Bs} {c f : Str} {e o : Expr} {pos pos' : Pos} {me mo : ME}
theorem x_fld (C : Cls X.K (He.ga X.K c)) (n : NoAttr X.K (He.ga X.K c) f) (h : XE X E e me) (hb : attributeBase e f X.env (eval e X.env) = eval e X.env := by rfl) : XE X E (.Attribute e f pos) (fun g => T.bind (me g) (dFld c f)) := by
  refine pe_w (pe_fld h hb) fun σ H Q ⟨g, S, H0, Qd, Ed, rel, hm, hq, hexc⟩ => ?_
  refine ⟨g, S, H0, _, Ed, rel, hm, fun d S1 hf v H1 H01 st1 gr1 r1 => ?_, hexc⟩
  obtain ⟨a, fs, rfl, hS, hf⟩ := hf
  obtain ⟨u, hl, hf⟩ := dOpt_inv hf
  cases r1
  obtain ⟨dx, vs, h1, hk, hr⟩ := st1.sto a _ hS
  obtain ⟨w, hw, rw_⟩ := flds_lookup hk hr hl
  exact ⟨a, _, dx, vs, w, rfl, h1, C, n, hw, hq _ S1 hf _ H1 H01 st1 gr1 rw_⟩
theorem s_fld (C : Cls X.K (He.ga X.K c)) (n : NoAttr X.K (He.ga X.K c) f) (ho : XE X E o mo) (he : XE X E e me) (hs : swapsWith e (some (.Attribute o f pos')) pos.line X.env = pure false := by rfl) :
    XS X E b (.Assign [.Attribute o f pos'] e pos) (fun g => T.bind (me g) fun d => T.bind (mo g) fun x => dSetF c f x d g) := by
  refine ps_w (ps_fld ho he hs) fun D σ H ⟨g, S, H0, Qd, Ed, r, hm, hq, hexc⟩ => ?_
  refine ⟨g, S, H0, _, Ed, r.rel, hm, fun d S1 hf v H1 H01 st1 gr1 r1 => ?_, exb r hexc⟩
  have g1 := r.grow st1 gr1
  refine ⟨g, S1, H01, _, Ed, g1.rel, hf, fun x S2 hf2 w H2 H02 st2 gr2 r2 => ?_, exb g1 hexc⟩
  have g2 := g1.grow st2 gr2
  have rv : Rp X.K H02 v d := r1.sub gr2.sub
  obtain ⟨a, fs, rfl, hS, hl, hf2⟩ := hf2
  cases r2
  obtain ⟨dx, vs, h1, hk, hr⟩ := st2.sto a _ hS
  obtain ⟨k1, k2⟩ := flds_put (f := f) rv hk hr
  have hlen : vs.length = fs.length := by have := congrArg List.length hk; simpa using this
  obtain ⟨st3, gr3⟩ := st2.upS (m' := .ins c (putD f d fs)) hS (noCode_ins h1) (o := .ins (He.ga X.K c) dx (putF f v vs)) ⟨dx, _, upd_same, k1, k2⟩
  exact ⟨a, _, dx, vs, rfl, h1, C, n, by rw [hlen]; exact hl, hq _ _ hf2 _ _ _ (g2.grow st3 gr3) fun a' o q => gr3.sub a' o (gr2.sub a' o (gr1.sub a' o q))⟩
end
/-! ### properties, class methods -/
def dProp (c : Str) (F : List D → T D) (d : D) : T D := insOf c d fun a _ => noX (F [.ref a])
theorem passN {X : Cx} : Passes (L2.CX X.prog X.w) X (fun _ _ _ => False) := fun _ _ _ _ _ _ _ z => by
  obtain ⟨_, _, _, _, _, _, _, _, _, _, _, _, z⟩ := z
  exact z.elim
section
variable {X : Cx} {j k : Nat} {E : XK} {c m f : Str} {e o : Expr} {es : List Expr} {p g : Addr} {F : List D → T D} {pos apos : Pos} {me mo : ME} {ma : MA} {fd : FuncData} {ps : List Str}
theorem x_prop (C : Cls X.K (He.ga X.K c)) (hp : PropOf X.K (He.ga X.K c) f p g) (O : ∃ fd, FnOk X.prog X.w X.K X.mg X.base (L2.CX X.prog X.w) j g fd ps (SpT X.K ps.length F) ∧ L2.Binds X.K fd ps []) (hps : ps.length = 1) (hr : Room k X.A) (hj : j + 1 ≤ k) (h : XE X E e me) (hb : attributeBase e f X.env (eval e X.env) = eval e X.env := by rfl) :
    XE X E (.Attribute e f pos) (fun g => T.bind (me g) (dProp c F)) := by
  obtain ⟨fd, G, bi⟩ := O
  refine pe_w (pe_prop (E := fun _ _ _ => False) h C hp G (hr.mono hj) bi .nil passN hb) fun σ H Q ⟨g, S, H0, Qd, Ed, rel, hm, hq, hexc⟩ => ?_
  refine ⟨g, S, H0, _, Ed, rel, hm, fun d S1 hf v H1 H01 st1 gr1 r1 => ?_, hexc⟩
  obtain ⟨a, fs, rfl, hS, hf⟩ := hf
  cases r1
  obtain ⟨dx, vs, h1, _, _⟩ := st1.sto a _ hS
  exact ⟨a, dx, vs, rfl, h1, [.ref a], S1, H01, Qd, fun _ _ => False, st1, .cons (.ref a) .nil, hps.symm, hf, fun d S' h v H' H0' st' gr' rv => hq d S' h v H' H0' st' (gr1.trans st1 gr') rv, fun _ _ z => z.elim⟩
theorem x_cmeth {mc : Value} {pl : Sem Bool} (r : ClX.CRead X.K (He.ga X.K c) mc) (cm : ClX.CMet X.K (He.ga X.K c) mc m p g) (O : OkM X.prog X.w X.K X.mg X.base j g F) (hr : Room k X.A) (hj : j ≤ k) (hx : Passes (L2.CX X.prog X.w) X E) (ho : XE X E o mo) (ha : XA X E (e :: es) ma)
    (hst : starEach (e :: es) X.env = (false, eval e X.env) :: starEach es X.env := by rfl) (hpl : (backTo pos (starEach es X.env)).any (·.1) = false := by rfl)
    (ht : eval (.Call (.Attribute o m apos) (e :: es) [] pos) X.env = (do
      let ov ← eval o X.env
      standAt apos.atName
      let (f, first) ← holding [ov] (getMethod ov m pl)
      callWith pos f first (backTo pos (starEach (e :: es) X.env)) (backToKw pos (keywordEach [] X.env))) := by rfl) :
    XE X E (.Call (.Attribute o m apos) (e :: es) [] pos) (fun g => T.bind (mo g) fun d => T.bind (dNeed (d = .glo c)) fun _ => T.bind (ma g) fun ds => F (.glo c :: ds)) := by
  refine pe_w (ClX.pe_cmeth (pl := pl) ho r cm O.fn (hr.mono hj) hx ha hst hpl ht) fun σ H Q ⟨g, S, H0, Qd, Ed, rel, hm, hq, hexc⟩ => ?_
  refine ⟨g, S, H0, _, Ed, rel, hm, fun d S1 hf v H1 H01 st1 gr1 r1 => ?_, hexc⟩
  obtain ⟨rfl, hf⟩ := hf
  cases r1
  refine ⟨rfl, g, S1, H01, _, Ed, rel.grow st1 gr1, hf, fun ds S2 hf2 ws H2 H02 st2 gr2 r2 => ?_, fun y S' ey => (hexc y S' ey).grow st1 gr1⟩
  have gr := gr1.trans st1 gr2
  exact ⟨.glo c :: ds, S2, H02, Qd, Ed, st2, .cons (.glo c) r2, hf2, fun d S' h v H' H0' st' gr' rv => hq d S' h v H' H0' st' (gr.trans st2 gr') rv, fun y S' ey => (hexc y S' ey).grow st2 gr⟩
end
/-! ### x op= e by an own method -/
/-- the object that RpM tells of, as the rows want it -/
theorem inst_at {X : Cx} {pins : List (Addr × Obj)} {σ : L2.St} {H : Hp} {s : Shared} {a C dx : Addr} {vs : List (Str × V)} (I : Inv X pins σ H s) (e : H a = some (.ins C dx vs)) : ∃ ox od, PySem.W.InstAt s.heap a ox C (some od) := by
  obtain ⟨mA, O, _⟩ := ins_get I.hok e
  obtain ⟨od, J, _⟩ := O.look
  exact ⟨_, od, J⟩
structure OpM (K : PySem.W.Frag) (c nm : Str) (g : Addr) : Prop where
  at_ : PySem.W.findIn K (.ref (He.ga K c)) nm = some (some (.ref g))
  fn : PySem.W.isFn K (.ref g) = true
  sf : PySem.W.selfFirst K (He.ga K c) = true
def tOwn (K : PySem.W.Frag) (c : Str) (sp : Sp) (E : XK) : TIp := fun x y H Q => ∃ a dx vs, x = .ref a ∧ H a = some (.ins (He.ga K c) dx vs) ∧ sp [x, y] H Q E
section
variable {X : Cx} {k : Nat} {E : XK} {c : Str} {g : Addr} {sp : Sp}
theorem ip_own {op : Operator} (M : OpM X.K c (dunderI op.info.2) g) (O : FnR X.prog X.w X.K X.mg X.base (L2.CX X.prog X.w) k g sp) (hr : Room k X.A) (hx : Passes (L2.CX X.prog X.w) X E) : PIp X op (tOwn X.K c sp E) := by
  intro pins s σ H x y v u Q I rx ry h
  obtain ⟨a, dx, vs, rfl, ha, h⟩ := h
  cases rx
  obtain ⟨ox, od, J⟩ := inst_at I ha
  obtain ⟨m, F⟩ := I.fr
  refine PySem.W.ksp_inplace F I.ok.mod.kin J M.sf M.at_ M.fn (wpAny_call ?_)
  refine codeAny_mono (run_fnR (us := [.ref a, u]) (vs := [.ref a, y]) O hr hx I (.cons rfl (.cons ry .nil)) h) fun r s' hq => ?_
  cases r with
  | error e => exact hq
  | ok fl =>
    cases fl with
    | ret z =>
      obtain ⟨zv, H', I', rz, hz⟩ := hq
      exact SlX.cmpback rz ⟨zv, H', I', rz, hz⟩
    | _ => exact hq
variable {j i : Nat} {x : Str} {e : Expr} {me : ME} {b : Bs} {F : List D → T D} {p pos : Pos}
theorem s_augI {op : Operator} (i : Nat) (M : OpM X.K c (dunderI op.info.2) g) (O : OkM X.prog X.w X.K X.mg X.base j g F) (hr : Room k X.A) (hj : j ≤ k) (hx : Passes (L2.CX X.prog X.w) X E) (hN : X.N.Nodup) (he : XE X E e me) (hi : X.N[i]? = some x := by rfl) (hl : Loc X.env.scope x := by first | exact .inl rfl | exact .inr rfl)
    (hf : X.fn x = true ∨ X.env.scope.names.lookup x = some .local := by first | exact .inl rfl | exact .inr rfl) :
    XS X E b (.AugAssign (.Name x p) op e pos) (fun g => T.bind (getv g i) fun o => T.bind (me g) fun d => insOf c o fun _ _ => T.bind (F [o, d]) fun z => T.pure (.nx (g.set i (.va z)))) := by
  refine ps_w (ps_aug hN hi hl he (ip_own M (O.mono hj).fn hr hx) hf) fun D σ H ⟨g, S, H0, Qd, Ed, r, hm, hq, hexc⟩ => ?_
  obtain ⟨o, hgi, hm⟩ := getv_inv hm
  obtain ⟨v, e1, rv⟩ := r.rel.sl i _ hgi
  refine ⟨v, e1, g, S, H0, _, Ed, r.rel, hm, fun d S1 hf y H1 H01 st1 gr1 r1 => ?_, exb r hexc⟩
  have g1 := r.grow st1 gr1
  obtain ⟨a, fs, rfl, hS, hf⟩ := hf
  cases rv
  obtain ⟨dx, vs, h1, _, _⟩ := st1.sto a _ hS
  refine ⟨a, dx, vs, rfl, h1, [.ref a, d], S1, H01, _, Ed, st1, .cons (.ref a) (.cons r1 .nil), hf, fun z S2 h zv H2 H02 st2 gr2 rz => ?_, exb g1 hexc⟩
  have g2 := g1.grow st2 gr2
  exact hq _ S2 h _ H2 H02 (g2.set rz i) fun a' o q => gr2.sub a' o (gr1.sub a' o q)
end
/-! ### str(x) by an own __str__ -/
section
variable {X : Cx} {k : Nat} {E : XK} {c : Str} {g : Addr} {sp : Sp}
def rStrOwn (K : PySem.W.Frag) (c : Str) (sp : Sp) (E : XK) : List V → Hp → VK → Prop := fun xs H Q => ∃ a dx vs, xs = [.ref a] ∧ H a = some (.ins (He.ga K c) dx vs) ∧ sp [.ref a] H (fun z H' => ∃ y, z = .str y ∧ Q z H') E
theorem cr_strOwn (M : OpM X.K c "__str__" g) (O : FnR X.prog X.w X.K X.mg X.base (L2.CX X.prog X.w) k g sp) (hr : Room (k + 2) X.A) (hx : Passes (L2.CX X.prog X.w) X E) : CallR X (.type "str") (rStrOwn X.K c sp E) := by
  intro pins s σ H us xs Q I r h
  obtain ⟨a, dx, vs, rfl, ha, h⟩ := h
  obtain ⟨u, rfl, ru⟩ := vals1 r
  cases ru
  obtain ⟨ox, od, J⟩ := inst_at I ha
  have hr2 : Room k X.A.in1.in1 := hr.in1.in1
  refine PySem.W.kso_call hr2.units0 I.kIn J M.at_ M.fn (wpAny_call ?_)
  refine codeAny_mono (SlX.run_at (ws := [.ref a]) O hr2 I.env0.in1.in1 hx I (.cons rfl .nil) h) fun r s' hq => ?_
  cases r with
  | error e => exact hq
  | ok fl =>
    cases fl with
    | ret z =>
      obtain ⟨zv, H', I', rz, y, rfl, hz⟩ := hq
      obtain ⟨t, rfl⟩ := (show ∃ t, z = Value.str y t from rz)
      exact ⟨.str y, H', I', rz, hz⟩
    | _ => exact hq
end
def strD : D → T D
  | .str y => T.pure (.str y)
  | _ => T.fail
section
variable {X : Cx} {j k : Nat} {E : XK} {c : Str} {g : Addr} {F : List D → T D} {e : Expr} {p pos : Pos} {me : ME}
theorem x_strI (M : OpM X.K c "__str__" g) (O : OkM X.prog X.w X.K X.mg X.base j g F) (hr : Room k X.A) (hj : j + 2 ≤ k) (hx : Passes (L2.CX X.prog X.w) X E) (hm : X.mg "str" = none) (h : XE X E e me) (hg : Gl X "str" := by rfl)
    (he : starEach [e] X.env = (false, eval e X.env) :: starEach [] X.env := by rfl) (hpl : (backTo pos (starEach [] X.env)).any (·.1) = false := by rfl) :
    XE X E (.Call (.Name "str" p) [e] [] pos) (fun g => T.bind (me g) fun d => insOf c d fun _ _ => T.bind (F [d]) strD) := by
  refine pe_w (pe_callTy (cr_strOwn M O.fn (hr.mono hj) hx) hg hm bb_str (pa_cons h pa_nil he) (by decide) (by decide) he hpl) fun σ H Q ⟨g, S, H0, Qd, Ed, rel, hm, hq, hexc⟩ => ?_
  refine ⟨g, S, H0, _, Ed, rel, hm, fun d S1 hf v H1 H01 st1 gr1 r1 => ?_, hexc⟩
  obtain ⟨a, fs, rfl, hS, hf⟩ := hf
  cases r1
  obtain ⟨dx, vs, h1, _, _⟩ := st1.sto a _ hS
  refine ⟨a, dx, vs, rfl, h1, [.ref a], S1, H01, _, Ed, st1, .cons (.ref a) .nil, hf, fun z S2 h zv H2 H02 st2 gr2 rz => ?_, fun y S' ey => (hexc y S' ey).grow st1 gr1⟩
  unfold strD at h
  split at h
  · cases rz
    exact ⟨_, rfl, hq _ S2 h _ H2 H02 st2 (gr1.trans st1 gr2) (.str _)⟩
  · exact h.elim
/-! ### f"{x}", x.split(" ") -/
def fmtD : D → T D
  | .str y => T.bind (dNeed (y.length ≤ sizeLine)) fun _ => T.pure (.str y)
  | _ => T.fail
theorem x_fmt1 {p2 : Pos} (h : XE X E e me) : XE X E (.JoinedStr [.FormattedValue e (-1) none p2] pos) (fun g => T.bind (me g) fmtD) := by
  refine pe_w (pe_joined1 (pe_fmt h)) fun σ H Q ⟨g, S, H0, Qd, Ed, rel, hm, hq, hexc⟩ => ?_
  refine ⟨g, S, H0, _, Ed, rel, hm, fun d S1 hf v H1 H01 st1 gr1 r1 => ?_, hexc⟩
  unfold fmtD at hf
  split at hf
  · obtain ⟨hl, hf⟩ := hf
    cases r1
    exact .inl ⟨_, rfl, hl, hq _ S1 hf _ H1 H01 st1 gr1 (.str _)⟩
  · exact hf.elim
def dSplit (a : Str) : D → T D
  | .str b => T.bind (dNeed ((b.length == 0) = false ∧ a.length + 2 ≤ sizeLine)) fun _ => T.pure (.lst ((Txt.split a b).map D.str))
  | _ => T.fail
theorem x_split {e2 : Expr} {me2 : ME} {apos : Pos} (h : XE X E e me) (h2 : XE X E e2 me2) (hs : starEach [e2] X.env = [(false, eval e2 X.env)] := by rfl) (hbase : attributeBase e "split" X.env (eval e X.env) = eval e X.env := by rfl) (hline : (apos.endLine == pos.line) = true := by rfl) :
    XN X E (.Call (.Attribute e "split" apos) [e2] [] pos) (fun g => T.bind (me g) fun x => T.bind (dAsS x) fun a => T.bind (me2 g) (dSplit a)) := by
  refine pe_w (pe_split h h2 hs hbase hline) fun σ H Q ⟨g, S, H0, Qd, Ed, rel, hm, hq, hexc⟩ => ?_
  refine ⟨g, S, H0, _, Ed, rel, hm, fun d S1 hf v H1 H01 st1 gr1 r1 => ?_, hexc⟩
  obtain ⟨a, rfl, hf⟩ := dAsS_inv hf
  cases r1
  refine ⟨⟨a, rfl⟩, g, S1, H01, _, Ed, rel.grow st1 gr1, hf, fun d2 S2 hf2 v2 H2 H02 st2 gr2 r2 => ?_, fun y S' ey => (hexc y S' ey).grow st1 gr1⟩
  unfold dSplit at hf2
  split at hf2
  · obtain ⟨⟨h1, h2⟩, hf2⟩ := hf2
    cases r2
    refine ⟨a, _, rfl, rfl, h1, h2, fun p hp => ?_⟩
    obtain ⟨st3, gr3, n0, nS⟩ := alloc_n st2 hp (.lst ((Txt.split _ _).map V.str))
    have gr := gr1.trans st1 gr2
    exact hq _ S2 hf2 _ _ H02 st3 (gr.trans st2 gr3) (.inl ⟨p, _, _, rfl, rfl, gr.fresh st2 hp, upd_same, n0, nS, Rps.ofStrs _⟩)
  · exact hf2.elim
end
end DL

set_option Elab.async false
set_option linter.all false
set_option maxRecDepth 100000
set_option maxHeartbeats 4000000
namespace DL
open PySem PySem.Spec PyProof.Rows L2 STx OrdS

/-! ### what the head tells of functions behind properties and class methods -/
/-- the function in the record of C.m, a property or a class method -/
def recA (ty : String) (c m : Str) (K : PySem.W.Frag) : Addr := match PySem.W.recIn K (He.ma K (He.ga K c) m) ty with
  | some (.ref g :: _) => g
  | _ => 0
def fnAt (K : PySem.W.Frag) (a : Addr) : He.FnW := match K.lookup a with
  | some ⟨_, _, .func fd, _⟩ => some (fd.name, fd.qualname, fd.params, fd.body, fd.scope, fd.globals, fd.closure, fd.builtins)
  | _ => none
structure DefY where
  adr : PySem.W.Frag → Addr
  name : Str
  qual : Str
  params : Arguments
  body : List Stmt
  scope : Scope
def DefY.val (d : DefY) : He.FnW := some (d.name, d.qual, d.params, .stmts d.body, d.scope, mainGlobals, [], builtinsNs)
def DefY.ok (K : PySem.W.Frag) (d : DefY) : Bool := PySem.W.keepIn K (.ref (d.adr K)) && (match K.lookup (d.adr K) with
  | some ⟨_, _, .func fd, _⟩ => PySem.W.codeIn K fd.code d.qual && (match fd.defaults with
    | .none => true
    | _ => false)
  | _ => false)
theorem DefY.funD {K : PySem.W.Frag} {d : DefY} (e : fnAt K (d.adr K) = d.val) (c : d.ok K = true) : ∃ fd, FunD K d.name d.qual d.params d.body d.scope [] [] (d.adr K) fd := by
  obtain ⟨kp, c2⟩ := He.ba c
  unfold fnAt at e
  cases q : K.lookup (d.adr K) with
  | none => rw [q] at c2; cases c2
  | some o =>
    obtain ⟨oc, od, dt, osl⟩ := o
    rw [q] at c2 e
    cases dt with
    | func fd =>
      obtain ⟨a1, a2, a3, a4, a5, a6, a7, a8, a9, a10, a11, a12, a13, a14, a15⟩ := fd
      have e2 : (some (a1, a2, a3, a4, a5, a6, a7, a15) : He.FnW) = some (d.name, d.qual, d.params, .stmts d.body, d.scope, mainGlobals, [], builtinsNs) := e
      simp only [Option.some.injEq, Prod.mk.injEq] at e2
      obtain ⟨e01, e02, e03, e04, e05, e06, e07, e08⟩ := e2
      subst e01 e02 e03 e04 e05 e06 e07 e08
      obtain ⟨k1, k2⟩ := He.ba c2
      have hd : a8 = .none := by
        cases a8 with
        | none => rfl
        | _ => cases k2
      subst hd
      exact ⟨_, ⟨oc, od, .none, a9, a10, a11, a12, a13, a14, osl, rfl, q, k1, .inl ⟨rfl, rfl⟩, .inl rfl⟩, kp⟩
    | _ => cases c2
/-! ### the Hook -/
abbrev AlY : Type := He.AlX × (Bool × List He.FnW)
/-- what the names reach, and the interpreter's own statics -/
def KY (g : Addr → Option Obj) (n : Nat) : PySem.W.Frag := He.frT g (He.asD g n ++ [cStatics])
def obsY (n : Nat) (fa : List He.Fa) (fn : List He.DefD) (ts : List He.Tab) (tf : List He.Defn) (ex : PySem.W.Frag → Bool) (fy : List DefY) (g : Addr → Option Obj) : AlY :=
  ((He.obsT fa fn ts (KY g n), ex (KY g n) && He.tabsB g tf (KY g n)), (fy.all fun d => d.ok (KY g n)), fy.map fun d => fnAt (KY g n) (d.adr (KY g n)))
def valY (fn : List He.DefD) (ts : List He.Tab) (fy : List DefY) (w : World) : AlY := (He.valX fn ts w, true, fy.map DefY.val)
theorem saysKY {n : Nat} {fa : List He.Fa} {fn : List He.DefD} {ts : List He.Tab} {tf : List He.Defn} {ex : PySem.W.Frag → Bool} {w : World} {h : Heap} (e : ((He.obsT fa fn ts (KY h.get? n), ex (KY h.get? n) && He.tabsB h.get? tf (KY h.get? n)) : He.AlX) = He.valX fn ts w) : He.SaysX fa fn ts tf ex w h (KY h.get? n) := by
  have q : (ex (KY h.get? n) && He.tabsB h.get? tf (KY h.get? n)) = true := (Prod.mk.inj e).2
  obtain ⟨qa, qb⟩ := Bool.and_eq_true_iff.mp q
  have each : ∀ p ∈ tf, PySem.W.codeHdIn (KY h.get? n) (He.cT (KY h.get? n) p).1 (He.cT (KY h.get? n) p).2 = true ∧ ∃ o, h.get? (He.cT (KY h.get? n) p).2 = some o ∧ He.emptyTab o = true := by
    intro p hp
    obtain ⟨r1, r2⟩ := Bool.and_eq_true_iff.mp (List.all_eq_true.mp qb p hp)
    refine ⟨r1, ?_⟩
    split at r2
    · rename_i o ho
      exact ⟨o, ho, r2⟩
    · cases r2
  refine ⟨(Prod.mk.inj e).1, qa, fun p hp => (each p hp).1, fun p hp => ?_, fun p hp => ?_⟩
  · obtain ⟨_, o, k1, k2⟩ := each p hp
    exact He.frT_none k1 k2
  · obtain ⟨_, o, k1, k2⟩ := each p hp
    rw [k1, He.emptyTab_eq k2]
structure SaysY (fa : List He.Fa) (fn : List He.DefD) (ts : List He.Tab) (tf : List He.Defn) (ex : PySem.W.Frag → Bool) (fy : List DefY) (w : World) (h : Heap) (K : PySem.W.Frag) : Prop where
  x : He.SaysX fa fn ts tf ex w h K
  ok : (fy.all fun d => d.ok K) = true
  at_ : fy.map (fun d => fnAt K (d.adr K)) = fy.map DefY.val
def hookY (n : Nat) (fa : List He.Fa) (fn : List He.DefD) (ts : List He.Tab) (tf : List He.Defn) (ex : PySem.W.Frag → Bool) (fy : List DefY) : PySem.W.Hook where
  α := AlY
  obs := fun s => obsY n fa fn ts tf ex fy s.heap.get?
  val := fun w => valY fn ts fy w
  says := fun w h => ∃ K : PySem.W.Frag, K.In h ∧ SaysY fa fn ts tf ex fy w h K
  of := fun _ _ e => ⟨_, He.frT_in, saysKY (congrArg (fun z : AlY => z.1) e), congrArg (fun z : AlY => z.2.1) e, congrArg (fun z : AlY => z.2.2) e⟩
  keeps := fun _ _ _ ⟨K, hK, c⟩ k => ⟨K, PySem.W.Frag.In.keeps hK k, ⟨c.x.t, c.x.more, c.x.hd, c.x.out, fun p hp => k _ _ (c.x.empty p hp)⟩, c.ok, c.at_⟩
theorem obsY_eq {n : Nat} {fa : List He.Fa} {fn : List He.DefD} {ts : List He.Tab} {tf : List He.Defn} {ex : PySem.W.Frag → Bool} {fy : List DefY} {g : Addr → Option Obj} {s : Shared} (h : ∀ a, g a = s.heap.get? a) : obsY n fa fn ts tf ex fy g = (hookY n fa fn ts tf ex fy).obs s := by
  have e : g = s.heap.get? := funext h
  rw [e]; rfl
theorem SaysY.def_ {fa : List He.Fa} {fn : List He.DefD} {ts : List He.Tab} {tf : List He.Defn} {ex : PySem.W.Frag → Bool} {fy : List DefY} {w : World} {h : Heap} {K : PySem.W.Frag} (c : SaysY fa fn ts tf ex fy w h K) (i : Nat) {d : DefY} (hi : fy[i]? = some d) : ∃ fd, FunD K d.name d.qual d.params d.body d.scope [] [] (d.adr K) fd := by
  refine DefY.funD ?_ (List.all_eq_true.mp c.ok d (List.mem_of_getElem? hi))
  have e := congrArg (fun l : List He.FnW => l[i]?) c.at_
  simp only [List.getElem?_map, hi, Option.map_some] at e
  exact Option.some.inj e
/-! ### the facts by Bools -/
def propB (c f : Str) (K : PySem.W.Frag) : Bool := He.eqO (PySem.W.findIn K (.ref (He.ga K c)) f) (some (some (.ref (He.ma K (He.ga K c) f)))) && (He.eqO (PySem.W.specialIn K (.ref (He.ma K (He.ga K c) f)) "__get__") (some (some (.builtin "property.__get__"))) &&
  (decide (PySem.W.takesIn K (.ref (He.ma K (He.ga K c) f)) = some true) && (match PySem.W.recIn K (He.ma K (He.ga K c) f) "property" with
    | some (.ref _ :: _) => true
    | _ => false)))
theorem propB_ok {c f : Str} {K : PySem.W.Frag} (h : propB c f K = true) : PropOf K (He.ga K c) f (He.ma K (He.ga K c) f) (recA "property" c f K) := by
  obtain ⟨h1, h⟩ := He.ba h
  obtain ⟨h2, h⟩ := He.ba h
  obtain ⟨h3, h4⟩ := He.ba h
  refine ⟨He.eqO_ok h1, He.eqO_ok h2, of_decide_eq_true h3, ?_⟩
  unfold recA
  cases q : PySem.W.recIn K (He.ma K (He.ga K c) f) "property" with
  | none => rw [q] at h4; cases h4
  | some l =>
    rw [q] at h4
    cases l with
    | nil => cases h4
    | cons v r =>
      cases v with
      | ref g => exact ⟨r, rfl⟩
      | _ => cases h4
def cmethB (c m : Str) (K : PySem.W.Frag) : Bool := PySem.W.readsIn K (He.ga K c) (.type "type") && (He.eqO (PySem.W.specialIn K (.ref (He.ga K c)) "__getattribute__") (some (some (.builtin "type.__getattribute__"))) &&
  ((match PySem.W.findCls K (.ref (He.ga K c)) (.type "type") m with
    | some (.get (.builtin b) (.ref p) .none (.ref C)) => decide (b = "classmethod.__get__") && (decide (p = He.ma K (He.ga K c) m) && decide (C = He.ga K c))
    | _ => false) && ((match PySem.W.recIn K (He.ma K (He.ga K c) m) "classmethod" with
    | some (.ref _ :: _) => true
    | _ => false) && PySem.W.fnIn K (recA "classmethod" c m K))))
theorem cmethB_ok {c m : Str} {K : PySem.W.Frag} (h : cmethB c m K = true) : ClX.CRead K (He.ga K c) (.type "type") ∧ ClX.CMet K (He.ga K c) (.type "type") m (He.ma K (He.ga K c) m) (recA "classmethod" c m K) := by
  obtain ⟨h1, h⟩ := He.ba h
  obtain ⟨h2, h⟩ := He.ba h
  obtain ⟨h3, h⟩ := He.ba h
  obtain ⟨h4, h5⟩ := He.ba h
  refine ⟨⟨h1, He.eqO_ok h2⟩, ?_, ?_, h5⟩
  · split at h3
    · rename_i e
      obtain ⟨k1, k2⟩ := He.ba h3
      obtain ⟨k2, k3⟩ := He.ba k2
      have k1 := of_decide_eq_true k1
      have k2 := of_decide_eq_true k2
      have k3 := of_decide_eq_true k3
      subst k1 k2 k3
      exact e
    · cases h3
  · unfold recA
    cases q : PySem.W.recIn K (He.ma K (He.ga K c) m) "classmethod" with
    | none => rw [q] at h4; cases h4
    | some l =>
      rw [q] at h4
      cases l with
      | nil => cases h4
      | cons v r =>
        cases v with
        | ref g => exact ⟨r, rfl⟩
        | _ => cases h4
def opmB (c m : Str) (K : PySem.W.Frag) : Bool := He.eqO (PySem.W.findIn K (.ref (He.ga K c)) m) (some (some (.ref (He.ma K (He.ga K c) m)))) && (PySem.W.isFn K (.ref (He.ma K (He.ga K c) m)) && PySem.W.selfFirst K (He.ga K c))
theorem opmB_ok {c m : Str} {K : PySem.W.Frag} (h : opmB c m K = true) : OpM K c m (He.ma K (He.ga K c) m) := by
  obtain ⟨h1, h⟩ := He.ba h
  obtain ⟨h2, h3⟩ := He.ba h
  exact ⟨He.eqO_ok h1, h2, h3⟩
theorem exAll {l : List (PySem.W.Frag → Bool)} {K : PySem.W.Frag} (h : (l.all fun b => b K) = true) (i : Nat) {b : PySem.W.Frag → Bool} (hi : l[i]? = some b) : b K = true := List.all_eq_true.mp h b (List.mem_of_getElem? hi)
end DL

set_option Elab.async false
set_option linter.all false
set_option maxRecDepth 100000
set_option maxHeartbeats 4000000
namespace DL
open PySem PySem.Spec PyProof.Rows L2 STx OrdS

/-- what the head tells, functions behind properties and class methods too -/
structure HdY (fa : List He.Fa) (fn : List He.DefD) (ex : PySem.W.Frag → Bool) (fy : List DefY) (K : PySem.W.Frag) (mg : Str → Option Value) : Prop extends Hd fa fn ex K mg where
  y : ∀ (i : Nat) (d : DefY), fy[i]? = some d → ∃ fd, FunD K d.name d.qual d.params d.body d.scope [] [] (d.adr K) fd
section
variable {fa : List He.Fa} {fn : List He.DefD} {ex : PySem.W.Frag → Bool} {K : PySem.W.Frag} {mg : Str → Option Value} (W : Hd fa fn ex K mg) (i : Nat)
include W
theorem Hd.clsF {x : Str} (h : fa[i]? = some (.cls x)) : Cls K (He.ga K x) := He.cls_ok (W.c.fact i h)
theorem Hd.noatF {x f : Str} (h : fa[i]? = some (.noat x f)) : NoAttr K (He.ga K x) f := He.noat_ok (W.c.fact i h)
theorem Hd.mkrF {x : Str} (h : fa[i]? = some (.mkr x)) : Mk K (He.ga K x) (He.ma K (He.ga K x) "__init__") := He.mkr_ok (W.c.fact i h)
end
/-! ### try: .. / except C as e: return 'w' if isinstance(e, M) else .. -/
def tryW (cs : List (Str × Str)) (m : MS) : MS := fun g S Q E => m g S Q fun x S' => x.fs = [] ∧ ∃ w, cs.lookup x.cls = some w ∧ Q (.rt (.str w)) S'
section
variable {X : Cx} {E : XK} {b : Bs} {M : Str} {cs : List (Str × Str)} {ns : List Str} {i : Nat} {body : List Stmt} {h0 : ExceptHandler} {hds : List ExceptHandler} {pos : Pos} {m : MS} {Wout : WX}
theorem s_tryW (T : ExcT X.K M ns) (hns : ∀ q ∈ cs, q.1 ∈ ns) (hN : X.N.Nodup) (tk : Takes X Wout) (hh : TryN.Hds X (h0 :: hds) (cs.map (wCl X.K M i)))
    (hb : ∀ (E' : XK) (pn : List (Addr × Obj)) (xe : Value → Shared → Prop), Passes (L2.CX X.prog X.w) (X.tr pn xe) E' → XSs (X.tr pn xe) E' b body m) (hi : i < X.N.length := by decide) (hs : X.stack = X.env :: X.outer := by rfl) (hf : X.env.frame = some X.env.locals := by rfl) :
    XS X E b (.Try body (h0 :: hds) [] [] pos) (tryW cs m) := by
  refine ps_w (TryN.ps_tryN (tb := fun W D σ H => ∃ E' : XK, (∀ cls d σ' H', E' cls d H' → W cls d σ' H') ∧ ls X.K E' b m D σ H) hs hf hN tk (fun W pn xe tk2 _ => ⟨fun pins s σ H D I ⟨E', hW, h⟩ => (hb E' pn xe (passes_call tk2 hW)).run pins s σ H D I h⟩) hh) fun D σ H ⟨g, S, H0, Qd, Ed, r, hm, hq, he⟩ => ?_
  refine ⟨wordX X.K cs D.rt, fun cls d σ' H' z => word_wish (Q := D.rt) hi rfl cs ns T hns cls d σ' H' z, g, S, H0, Qd, _, r, hm, hq, fun x S' h o H' H0' st gr rx => ?_⟩
  obtain ⟨hx, w, hw, h⟩ := h
  refine ⟨?_, x.cls, w, rfl, hw, (hq _ S' h) _ H' H0' st gr (.str w)⟩
  rcases rx with ⟨_, e⟩ | ⟨e, _⟩
  · exact e
  · exact absurd hx e
end
/-! ### a law's end -/
theorem law_endY {l : PySem.W.OpenLaw} {n k N : Nat} {q : Program} {loose : List Str} {XP : (Str → Option Value) → Heap → Prop} {d : DefRec} {fa : List He.Fa} {fn : List He.DefD} {ts : List He.Tab} {tq : List (He.Defn × Str)} {ex : PySem.W.Frag → Bool} {fy : List DefY} {x lawN : Str} {F : PySem.W.Frag → List D → T D}
    (hn : l.most = some n) (hn2 : n ≤ sizeLine) (hdf : d.params.defaults = []) (hr : Room k callerA) (hdn : d.name = lawN)
    (ok : ∀ (w : World) (K : PySem.W.Frag) (mg : Str → Option Value) (h : Heap), K.In h → h.Ns mainGlobals mg → SaysY fa fn ts (tq.map (·.1)) ex fy w h K → (∃ fd, (∀ (s : Shared) (u : Value), BindsTo s fd ⟨[u], []⟩ [(x, u)]) ∧ ∃ oc od osl, K.lookup (He.ga K lawN) = some ⟨oc, od, .func fd, osl⟩) ∧ mg lawN = some (.ref (He.ga K lawN)) ∧
      ∀ base : Heap, K.In base → base.Ns mainGlobals mg → (∀ p ∈ tq, LamX.TabB base mg (He.cT K p.1).1 (He.cT K p.1).2) → Ok l.prog w K mg base k lawN [x] (F K))
    (hex : ∀ K, ex K = true → (tq.map fun p => (He.cT K p.1).2).Nodup)
    (data : ∀ (K : PySem.W.Frag) (ns : List Int), ex K = true → ns.length ≤ n → (∀ z ∈ ns, Builtin.Int.intBits z ≤ 1048576) → F K [.frz (ns.map D.int)] (S0 K tq) (fun d _ => d = .bl true) fun _ _ => False) :
    PySem.W.WalkO q loose XP (hookY N fa fn ts (tq.map (·.1)) ex fy).says l.row.toRowW d [] (fun f vs => PySem.call f vs) := by
  refine LamX.walk_ofTsE (x := x) (k := k) (CX := fun w => L2.CX l.prog w) hn hn2 hdf hr (fun w mg fad h Y G hmg => ?_) fun w H s e s' z => by
    obtain ⟨_, _, _, _, _, _, _, _, _, _, _, _, z⟩ := z
    exact z
  obtain ⟨K, KX, c⟩ := Y
  obtain ⟨⟨fd, hb, oc, od, osl, lk⟩, hgl, hO⟩ := ok w K mg h KX G c
  have hF : ∀ base : Heap, K.In base → base.Ns mainGlobals mg → (∀ p ∈ tq, LamX.TabB base mg (He.cT K p.1).1 (He.cT K p.1).2) → FnOk l.prog w K mg base (L2.CX l.prog w) k (He.ga K lawN) fd [x] (SpT K 1 (F K)) := fun base h1 h2 h3 => by
    obtain ⟨fd', G', _, oc', od', osl', lk'⟩ := (hO base h1 h2 h3).ex
    rw [lk] at lk'
    have e : fd = fd' := by injection lk' with e; injection e with _ _ e _; injection e
    subst e
    exact G'
  rw [hdn] at hmg
  have e : fad = He.ga K lawN := by
    rw [hmg] at hgl
    exact Value.ref.inj (Option.some.inj hgl)
  subst e
  have nd := hex K c.x.more
  have mem : ∀ p ∈ (tq.map (·.1)).map (He.cT K), ∃ t ∈ tq, p = He.cT K t.1 := fun p hp => by
    obtain ⟨d, hd, rfl⟩ := List.mem_map.mp hp
    obtain ⟨t, ht, rfl⟩ := List.mem_map.mp hd
    exact ⟨t, ht, rfl⟩
  refine ⟨K, KX, fd, (tq.map (·.1)).map (He.cT K), SpT K 1 (F K), fun p hp => ?_, fun p hp => ?_, fun p hp => ?_, hb, fun H a ns hl hbits hH hS => ?_, fun base h1 h2 h3 => hF base h1 h2 fun t ht => h3 _ (List.mem_map.mpr ⟨t.1, List.mem_map.mpr ⟨t, ht, rfl⟩, rfl⟩)⟩
  · obtain ⟨t, ht, rfl⟩ := mem p hp
    exact c.x.empty _ (List.mem_map.mpr ⟨t, ht, rfl⟩)
  · obtain ⟨t, ht, rfl⟩ := mem p hp
    exact c.x.out _ (List.mem_map.mpr ⟨t, ht, rfl⟩)
  · obtain ⟨t, ht, rfl⟩ := mem p hp
    exact PySem.W.codeHd_of_K KX (c.x.hd _ (List.mem_map.mpr ⟨t, ht, rfl⟩))
  · have nd2 : ((tq.map fun p => ((He.cT K p.1).2, p.2)).map (·.1)).Nodup := by rw [List.map_map]; exact nd
    have tabs : ∀ b m, S0 K tq b = some m → ∃ t ∈ tq, b = (He.cT K t.1).2 ∧ m = .tab t.2 := fun b m e => by
      unfold S0 at e
      obtain ⟨s, h1, h2⟩ := Option.map_eq_some_iff.mp e
      obtain ⟨t, ht, e2⟩ := List.mem_map.mp (mem_lookup' h1)
      cases e2
      exact ⟨t, ht, rfl, h2.symm⟩
    have at_ : ∀ t ∈ tq, H (He.cT K t.1).2 = some (.tbl #[]) := fun t ht => hH _ (List.mem_map.mpr ⟨t.1, List.mem_map.mpr ⟨t, ht, rfl⟩, rfl⟩)
    refine ⟨[.frz (ns.map D.int)], S0 K tq, fun b => if S0 K tq b = none then H b else none, fun d _ => d = .bl true, fun _ _ => False, ⟨fun b o e => ?_, fun b n => if_neg n, fun b m e => ?_⟩, .cons (.frz ?_ (Rps.ofInts ns)) .nil, rfl, data K ns c.x.more hl hbits, fun d S' e v H' H0' _ _ r => ?_, fun x S' z => z.elim⟩
    · by_cases hb : S0 K tq b = none
      · have e' : (if S0 K tq b = none then H b else none) = some o := e
        rw [if_pos hb] at e'; exact e'
      · have e' : (if S0 K tq b = none then H b else none) = some o := e
        rw [if_neg hb] at e'; cases e'
    · obtain ⟨t, ht, rfl, rfl⟩ := tabs b m e
      exact LamX.TabS.nil (at_ t ht)
    · have na : ∀ u, H a = some u → (∀ ps, u ≠ .tbl ps) → (if S0 K tq a = none then H a else none) = some u := fun u e hu => by
        have hb : S0 K tq a = none := by
          cases q : S0 K tq a with
          | none => rfl
          | some m =>
            obtain ⟨t, ht, rfl, _⟩ := tabs a m q
            rw [at_ t ht] at e
            exact absurd (Option.some.inj e).symm (hu _)
        rw [if_pos hb]; exact e
      rcases hS with (h | ⟨o, h⟩) | h
      · exact .inl (.inl (na _ h fun ps z => nomatch z))
      · exact .inl (.inr ⟨o, na _ h fun ps z => nomatch z⟩)
      · exact .inr h
    · have e : d = .bl true := e
      subst e
      cases r
      rfl
end DL

set_option Elab.async false
set_option linter.all false
set_option maxRecDepth 100000
set_option maxHeartbeats 4000000
namespace DL
open PySem PySem.Spec PyProof.Rows L2 STx OrdS

/-! ### sorted(t), t a tuple of texts -/
def rSortedTup (K : PySem.W.Frag) : List V → Hp → VK → Prop := fun vs H Q => ∃ (a : Addr) (xs : List Str), vs = [V.ref a] ∧ SqT K H a (xs.map V.str) ∧ xs.length < 64 ∧ ∀ (ys : List Str) (p : Addr), ys.Perm xs → sortedS ys = true → H p = none → Q (.ref p) (upd H p (.lst (ys.map V.str)))
theorem cr_sortedTup {X : Cx} : CallR X (.builtin "sorted") (rSortedTup X.K) := by
  intro pins s σ H vs us Q I r h
  obtain ⟨a, xs, rfl, hs, h64, q⟩ := h
  obtain ⟨its, rv, ⟨o, ho, hc, n, hd⟩, _⟩ := I.tuple hs
  rw [Vals.ref1 r]
  have hlen0 : xs.length = its.length := by
    have := rv.length
    rwa [List.length_map] at this
  have hS := rv.strs
  have h64' : its.length < 64 := by rw [← hlen0]; exact h64
  refine Calls.call_function_entry kind_sorted plain_sorted entry_sorted (args_sorted1 _) ?_
  unfold Builtin.«sorted»
  refine wpAny_bind (m := checkCount "sorted" 1 1 _) (wpAny_pure ?_)
  refine wpAny_bind (wpAny_collect_seq a (.inr rfl) ho hc hd (fun h' hk => ?_) (by rw [List.size_toArray]; exact small64 h64'))
  have e : its.toArray.toList = its := by simp
  rw [e]
  have J := I.kept (t' := s.toks) hk
  refine wpAny_bind (wpAny_newList ?_)
  have hoL : (h'.push (seqObj "list" its.toArray 0)).get? h'.objs.size = some (seqObj "list" its.toArray 0) := Heap.get?_push_size _ rfl
  refine wpAny_bind (wpAny_holding (wpAny_call_entry slot_list_sort ⟨_, hoL, rfl⟩ entry_list_sort (list_sort_treeK strKind_oneLt hoL hS.keysOf (fun v₁ v₂ rest e => keyKind_strs (by rw [← e]; exact hS)) h64' fun st' hp hs => ⟨_, rfl, ?_⟩) (args_list_sort _)))
  obtain ⟨ys, b1, b2, b3⟩ := sorted_out_str hS hp hs
  obtain ⟨ep, he'⟩ := sortedHeap_at (vs := its) (out := (arrOf st').map (·.2)) hoL
  have hlen : (ys.map V.str).length ≤ sizeLine := by rw [List.length_map, b2.length_eq]; exact small64 h64
  refine wpAny_pure ⟨_, rfl, ⟨.ref _, upd H h'.objs.size (.lst (ys.map V.str)), J.laid (t' := s.toks) (fun b u z => ?_) (Nat.le_refl _) ⟨hlen, _, ep, vals_of_strs b1, he'⟩, rfl, q ys _ b2 b3 (J.hok.fresh (Nat.le_refl _))⟩⟩
  have hb : b < h'.objs.size := Heap.lt_size z
  rw [sortedHeap_old (Nat.ne_of_lt hb) (by rw [Heap.size_push]; exact Nat.lt_succ_of_lt hb)]
  exact Heap.get?_push_of_some _ z
def dSortedT : List D → T D
  | [.tup xs] => dOpt (strsOf xs) fun ss => T.bind (dNeed (ss.length < 64)) fun _ => T.pure (.lst ((ssort ss).map D.str))
  | _ => T.fail
theorem s_sortedT {K : PySem.W.Frag} : CallS K (RN K) (rSortedTup K) dSortedT := by
  intro vs ds H H0 S Qd Ed Q st rs hf hq
  unfold dSortedT at hf
  split at hf
  · obtain ⟨v, rfl, rv⟩ := rs.one
    obtain ⟨a, xs, rfl, h1, r⟩ := rv.tup
    obtain ⟨ss, hb, hf⟩ := dOpt_inv hf
    rw [strsOf_eq hb] at r
    obtain ⟨hz, hf⟩ := hf
    refine ⟨a, ss, rfl, by rw [← r.strs]; exact sqT_sub st.sub h1, hz, fun ys q hp hs hn => ?_⟩
    obtain rfl := ssort_of hp hs
    obtain ⟨st2, gr2, n0, nS⟩ := alloc_n st hn (.lst ((ssort ss).map V.str))
    exact hq _ S hf _ _ _ st2 gr2 (.inl ⟨q, _, _, rfl, rfl, hn, upd_same, n0, nS, Rps.ofStrs _⟩)
  · exact hf.elim
end DL

set_option Elab.async false
set_option linter.all false
set_option maxRecDepth 100000
set_option maxHeartbeats 4000000
namespace DL
open PySem PySem.Spec PyProof.Rows L2 STx OrdS

/-! ### a run of a method where the row wants it -/
section
variable {X : Cx} {k : Nat} {E : XK} {g : Addr} {sp : Sp} {pins : List (Addr × Obj)} {σ : L2.St} {H : Hp} {s : Shared} {us : List Value} {vs : List V} {Q : VK}
theorem run_own (O : FnR X.prog X.w X.K X.mg X.base (L2.CX X.prog X.w) k g sp) (hr : Room k X.A) (hx : Passes (L2.CX X.prog X.w) X E) (I : Inv X pins σ H s) (r : Vals vs us) (h : sp vs H Q E) : wpAny (model X.prog X.w) X.A (call (.ref g) us) (EP X pins σ Q) X.xe s := by
  refine wpAny_call (codeAny_mono (run_fnR O hr hx I r h) fun q s' hq => ?_)
  cases q with
  | error e => exact hq
  | ok fl =>
    cases fl with
    | ret z => exact hq
    | _ => exact hq
theorem run_own1 (O : FnR X.prog X.w X.K X.mg X.base (L2.CX X.prog X.w) k g sp) (hr : Room (k + 1) X.A) (hx : Passes (L2.CX X.prog X.w) X E) (I : Inv X pins σ H s) (r : Vals vs us) (h : sp vs H Q E) : wpAny (model X.prog X.w) X.A.in1 (call (.ref g) us) (EP X pins σ Q) X.xe s := by
  refine wpAny_call (codeAny_mono (SlX.run_at O hr.in1 I.env0.in1 hx I r h) fun q s' hq => ?_)
  cases q with
  | error e => exact hq
  | ok fl =>
    cases fl with
    | ret z => exact hq
    | _ => exact hq
end
/-- asked of one instance, by a method of no argument -/
def sOwn1 (K : PySem.W.Frag) (c : Str) (sp : Sp) (E : XK) (x : V) (H : Hp) (Q : VK) : Prop := ∃ a dx vs, x = .ref a ∧ H a = some (.ins (He.ga K c) dx vs) ∧ sp [x] H Q E
def sOwn2 (K : PySem.W.Frag) (c : Str) (sp : Sp) (E : XK) (x y : V) (H : Hp) (Q : VK) : Prop := ∃ a dx vs, x = .ref a ∧ H a = some (.ins (He.ga K c) dx vs) ∧ sp [x, y] H Q E
/-! ### len(x), ~x, x in o, x[i] -/
section
variable {X : Cx} {k : Nat} {E : XK} {c : Str} {g : Addr} {sp : Sp}
theorem cr_lenOwn (M : OpM X.K c "__len__" g) (O : FnR X.prog X.w X.K X.mg X.base (L2.CX X.prog X.w) k g sp) (hr : Room (k + 1) X.A) (hx : Passes (L2.CX X.prog X.w) X E) :
    CallR X (.builtin "len") (fun xs H Q => ∃ x, xs = [x] ∧ sOwn1 X.K c sp E x H fun z H' => ∃ n : Nat, z = .int n ∧ (n : Int) < 2 ^ 63 ∧ Q z H') := by
  intro pins s σ H us xs Q I r h
  obtain ⟨x, rfl, a, dx, vs, rfl, ha, h⟩ := h
  obtain ⟨u, rfl, ru⟩ := vals1 r
  cases ru
  obtain ⟨ox, od, J⟩ := inst_at I ha
  obtain ⟨m, F⟩ := I.fr
  refine PySem.W.len_K F I.ok.mod.kin J M.at_ M.fn (wpAny_mono (run_own1 (vs := [.ref a]) O hr hx I (.cons rfl .nil) h) (fun z s' hz => ?_) fun _ _ y => y)
  obtain ⟨zv, H', I', rz, n, rfl, hn, hz⟩ := hz
  obtain ⟨t, rfl⟩ := (show ∃ t, z = Value.int n t from rz)
  exact ⟨⟨by omega, hn⟩, .int n, H', I'.tok _, ⟨_, rfl⟩, hz⟩
theorem un_inv_own (M : OpM X.K c "__invert__" g) (O : FnR X.prog X.w X.K X.mg X.base (L2.CX X.prog X.w) k g sp) (hr : Room k X.A) (hx : Passes (L2.CX X.prog X.w) X E) : UnR X (unaryOp .Invert) (sOwn1 X.K c sp E) := by
  intro pins s σ H x v Q I rx h
  obtain ⟨a, dx, vs, rfl, ha, h⟩ := h
  cases rx
  obtain ⟨ox, od, J⟩ := inst_at I ha
  obtain ⟨m, F⟩ := I.fr
  exact PySem.W.ksp_inv F I.ok.mod.kin J M.at_ M.fn (run_own (vs := [.ref a]) O hr hx I (.cons rfl .nil) h)
theorem op_in_own (M : OpM X.K c "__contains__" g) (O : FnR X.prog X.w X.K X.mg X.base (L2.CX X.prog X.w) k g sp) (hr : Room k X.A) (hx : Passes (L2.CX X.prog X.w) X E) :
    OpR X (compareOp .In) (fun x y H Q => sOwn2 X.K c sp E y x H fun z H' => ∃ b, z = .bl b ∧ Q z H') := by
  intro pins s σ H x y v u Q I rx ry h
  obtain ⟨a, dx, vs, rfl, ha, h⟩ := h
  cases ry
  obtain ⟨ox, od, J⟩ := inst_at I ha
  obtain ⟨m, F⟩ := I.fr
  refine PySem.W.in_K F I.ok.mod.kin J M.at_ M.fn (wpAny_mono (run_own (vs := [.ref a, x]) O hr hx I (.cons rfl (.cons rx .nil)) h) (fun z s' hz => ?_) fun _ _ y => y)
  obtain ⟨zv, H', I', rz, b, rfl, hz⟩ := hz
  cases (show z = Value.bool b from rz)
  exact wpAny_pure ⟨.bl b, H', I', rfl, hz⟩
theorem op_nin_own (M : OpM X.K c "__contains__" g) (O : FnR X.prog X.w X.K X.mg X.base (L2.CX X.prog X.w) k g sp) (hr : Room k X.A) (hx : Passes (L2.CX X.prog X.w) X E) :
    OpR X (compareOp .NotIn) (fun x y H Q => sOwn2 X.K c sp E y x H fun z H' => ∃ b, z = .bl b ∧ Q (.bl (!b)) H') := by
  intro pins s σ H x y v u Q I rx ry h
  obtain ⟨a, dx, vs, rfl, ha, h⟩ := h
  cases ry
  obtain ⟨ox, od, J⟩ := inst_at I ha
  obtain ⟨m, F⟩ := I.fr
  refine PySem.W.notIn_K F I.ok.mod.kin J M.at_ M.fn (wpAny_mono (run_own (vs := [.ref a, x]) O hr hx I (.cons rfl (.cons rx .nil)) h) (fun z s' hz => ?_) fun _ _ y => y)
  obtain ⟨zv, H', I', rz, b, rfl, hz⟩ := hz
  cases (show z = Value.bool b from rz)
  exact wpAny_pure ⟨.bl (!b), H', I', rfl, hz⟩
variable {a b : Expr} {ta tb : TE} {pos : Pos}
theorem pe_item_own (M : OpM X.K c "__getitem__" g) (hfi : PySem.W.fnIn X.K g = true) (O : FnR X.prog X.w X.K X.mg X.base (L2.CX X.prog X.w) k g sp) (hr : Room (k + 1) X.A) (hx : Passes (L2.CX X.prog X.w) X E) (ha : PE X a ta) (hb : PE X b tb)
    (hsl : ∀ o i, subscripted b true o i = runValue (.builtin "lifetime.subscript" ⟨[o, i], []⟩) := by intro _ _; with_unfolding_all rfl) : PE X (.Subscript a b pos) (tOp (fun x y H Q => sOwn2 X.K c sp E x y H Q) ta tb) := by
  refine ⟨fun pins s σ H Q I h => ?_⟩
  refine Subscript_ (binT ha hb I h fun v u s2 x y H2 I2 rx ry q => ?_)
  obtain ⟨p, dx, vs, rfl, hp, q⟩ := q
  cases rx
  obtain ⟨ox, od, J⟩ := inst_at I2 hp
  obtain ⟨m, F⟩ := I2.fr
  exact PySem.W.sub_K F I2.ok.mod.kin J M.at_ hfi M.fn (run_own1 (vs := [.ref p, y]) O hr hx I2 (.cons rfl (.cons ry .nil)) q) (hsl _ _)
/-! ### x op y, x < y .., y of the same class or of a built-in one -/
/-- the class of y, for the class c -/
inductive RightOf (K : PySem.W.Frag) (c : Str) (H : Hp) : V → Value → Prop
  | own {b dx : Addr} {vs : List (Str × V)} (h : H b = some (.ins (He.ga K c) dx vs)) : RightOf K c H (.ref b) (.ref (He.ga K c))
  | blt {y : V} {t : String} (h : TyX K H y (.type t)) (hs : PySem.W.subIn K (.type t) (.ref (He.ga K c)) = some false) : RightOf K c H y (.type t)
theorem right_look {pins : List (Addr × Obj)} {σ : L2.St} {H : Hp} {s : Shared} {y : V} {u t : Value} (I : Inv X pins σ H s) (ry : RelV y u) (h : RightOf X.K c H y t) : PySem.W.Looks (model X.prog X.w) s.heap (typeOf u) t ∧ PySem.W.notFirst X.K (He.ga X.K c) t = true := by
  cases h with
  | own h =>
    cases ry
    obtain ⟨ox, od, J⟩ := inst_at I h
    exact ⟨J.type, by unfold PySem.W.notFirst; simp⟩
  | blt h hs =>
    obtain ⟨P, KX, hP, _⟩ := kit_of I ry h
    exact ⟨KX.ty _ _ I.kIn hP, by unfold PySem.W.notFirst; rw [hs]; simp⟩
theorem op_cmp_own {op : CmpOp} (hop : ∀ a b, compareOp op a b = richCompare op a b) (M : OpM X.K c (cmpInfo op).2.1 g) (O : FnR X.prog X.w X.K X.mg X.base (L2.CX X.prog X.w) k g sp) (hr : Room k X.A) (hx : Passes (L2.CX X.prog X.w) X E) :
    OpR X (compareOp op) (fun x y H Q => (∃ t, RightOf X.K c H y t) ∧ sOwn2 X.K c sp E x y H Q) := by
  intro pins s σ H x y v u Q I rx ry h
  obtain ⟨⟨t, ht⟩, a, dx, vs, rfl, ha, h⟩ := h
  cases rx
  obtain ⟨ox, od, J⟩ := inst_at I ha
  obtain ⟨m, F⟩ := I.fr
  obtain ⟨L, hn⟩ := right_look I ry ht
  rw [hop]
  refine PySem.W.cmp_K (op := op) (tb := t) hr.units0 F I.ok.mod.kin J L hn M.at_ M.fn (wpAny_mono (run_own (vs := [.ref a, y]) O hr hx I (.cons rfl (.cons ry .nil)) h) (fun z s' hz => ?_) fun _ _ y => y)
  obtain ⟨zv, H', I', rz, hz⟩ := hz
  exact SlX.cmpback rz ⟨zv, H', I', rz, hz⟩
theorem op_bin_same {op : Operator} (M : OpM X.K c (PySem.dunder op.info.2) g) (O : FnR X.prog X.w X.K X.mg X.base (L2.CX X.prog X.w) k g sp) (hr : Room k X.A) (hx : Passes (L2.CX X.prog X.w) X E) :
    OpR X (binaryOp op) (fun x y H Q => (∃ b dx vs, y = .ref b ∧ H b = some (.ins (He.ga X.K c) dx vs)) ∧ sOwn2 X.K c sp E x y H Q) := by
  intro pins s σ H x y v u Q I rx ry h
  obtain ⟨⟨b, dy, ws, rfl, hb⟩, a, dx, vs, rfl, ha, h⟩ := h
  cases rx
  cases ry
  obtain ⟨ox, od, J⟩ := inst_at I ha
  obtain ⟨oy, od', J'⟩ := inst_at I hb
  obtain ⟨m, F⟩ := I.fr
  refine PySem.W.binop_K F I.ok.mod.kin J J'.type M.sf M.at_ M.fn (wpAny_mono (run_own (vs := [.ref a, .ref b]) O hr hx I (.cons rfl (.cons rfl .nil)) h) (fun z s' hz => ?_) fun _ _ y => y)
  obtain ⟨zv, H', I', rz, hz⟩ := hz
  exact SlX.cmpback rz ⟨zv, H', I', rz, hz⟩
end
end DL

set_option Elab.async false
set_option linter.all false
set_option maxRecDepth 100000
set_option maxHeartbeats 4000000
namespace DL
open PySem PySem.Spec PyProof.Rows L2 STx OrdS

/-! ### methods -/
section
variable {X : Cx} {j k : Nat} {E : XK} {c m : Str} {f : Addr} {F : List D → T D} {e o : Expr} {es : List Expr} {pos apos : Pos} {mo : ME} {ma : MA} {ps : List Str} {pl : Sem Bool}
theorem x_meth (C : Cls X.K (He.ga X.K c)) (M : Meth X.K (He.ga X.K c) m f) (O : ∃ fd, FnOk X.prog X.w X.K X.mg X.base (L2.CX X.prog X.w) j f fd ps (SpT X.K ps.length F) ∧ L2.Binds X.K fd ps []) (hr : Room k X.A) (hj : j ≤ k) (hx : Passes (L2.CX X.prog X.w) X E) (ho : XE X E o mo) (ha : XA X E (e :: es) ma)
    (hst : starEach (e :: es) X.env = (false, eval e X.env) :: starEach es X.env := by rfl) (hpl : (backTo pos (starEach es X.env)).any (·.1) = false := by rfl)
    (ht : eval (.Call (.Attribute o m apos) (e :: es) [] pos) X.env = (do
      let ov ← eval o X.env
      standAt apos.atName
      let (f, first) ← holding [ov] (getMethod ov m pl)
      callWith pos f first (backTo pos (starEach (e :: es) X.env)) (backToKw pos (keywordEach [] X.env))) := by rfl) :
    XE X E (.Call (.Attribute o m apos) (e :: es) [] pos) (fun g => T.bind (mo g) fun d => insOf c d fun _ fs => T.bind (dNeed (fs.lookup m = none)) fun _ => T.bind (ma g) fun ds => needN ps.length F (d :: ds)) := by
  obtain ⟨fd, G, bi⟩ := O
  refine pe_w (pe_meth (pl := pl) ho C M G (hr.mono hj) bi .nil hx ha hst hpl ht) fun σ H Q ⟨g, S, H0, Qd, Ed, rel, hm, hq, hexc⟩ => ?_
  refine ⟨g, S, H0, _, Ed, rel, hm, fun d S1 hf v H1 H01 st1 gr1 r1 => ?_, hexc⟩
  obtain ⟨a, fs, rfl, hS, hn, hf⟩ := hf
  cases r1
  obtain ⟨dx, vs, h1, hk, _⟩ := st1.sto a _ hS
  refine ⟨a, dx, vs, rfl, h1, flds_none hk hn, g, S1, H01, _, Ed, rel.grow st1 gr1, hf, fun ds S2 hf2 ws H2 H02 st2 gr2 r2 => ?_, fun y S' ey => (hexc y S' ey).grow st1 gr1⟩
  obtain ⟨hl, hf2⟩ := hf2
  have gr := gr1.trans st1 gr2
  rw [List.append_nil]
  exact ⟨.ref a :: ds, S2, H02, Qd, Ed, st2, .cons (.ref a) r2, hl, hf2, fun d S' h v H' H0' st' gr' rv => hq d S' h v H' H0' st' (gr.trans st2 gr') rv, fun y S' ey => (hexc y S' ey).grow st2 gr⟩
theorem x_meth0 (C : Cls X.K (He.ga X.K c)) (M : Meth X.K (He.ga X.K c) m f) (O : ∃ fd, FnOk X.prog X.w X.K X.mg X.base (L2.CX X.prog X.w) j f fd ps (SpT X.K ps.length F) ∧ L2.Binds X.K fd ps []) (hr : Room k X.A) (hj : j ≤ k) (hx : Passes (L2.CX X.prog X.w) X E) (ho : XE X E o mo)
    (ht : eval (.Call (.Attribute o m apos) [] [] pos) X.env = (do
      let ov ← eval o X.env
      standAt apos.atName
      let (f, first) ← holding [ov] (getMethod ov m pl)
      callWith pos f first (backTo pos (starEach [] X.env)) (backToKw pos (keywordEach [] X.env))) := by rfl) :
    XE X E (.Call (.Attribute o m apos) [] [] pos) (fun g => T.bind (mo g) fun d => insOf c d fun _ fs => T.bind (dNeed (fs.lookup m = none)) fun _ => needN ps.length F [d]) := by
  obtain ⟨fd, G, bi⟩ := O
  refine pe_w (pe_meth0 (pl := pl) ho C M G (hr.mono hj) bi .nil hx ht) fun σ H Q ⟨g, S, H0, Qd, Ed, rel, hm, hq, hexc⟩ => ?_
  refine ⟨g, S, H0, _, Ed, rel, hm, fun d S1 hf v H1 H01 st1 gr1 r1 => ?_, hexc⟩
  obtain ⟨a, fs, rfl, hS, hn, hl, hf⟩ := hf
  cases r1
  obtain ⟨dx, vs, h1, hk, _⟩ := st1.sto a _ hS
  exact ⟨a, dx, vs, rfl, h1, flds_none hk hn, [.ref a], S1, H01, Qd, Ed, st1, .cons (.ref a) .nil, hl, hf, fun d S' h v H' H0' st' gr' rv => hq d S' h v H' H0' st' (gr1.trans st1 gr') rv, fun y S' ey => (hexc y S' ey).grow st1 gr1⟩
end
/-! ### special methods, in data -/
def callI (c : Str) (F : List D → T D) (d : D) (ds : List D) : T D := insOf c d fun _ _ => F (d :: ds)
theorem own_sp {K : PySem.W.Frag} {E : XK} {c : Str} {F : List D → T D} {H1 H01 : Hp} {S1 : Sto} {v : V} {d : D} {vs : List V} {ds : List D} {Qd : D → Sto → Prop} {Ed : Xn → Sto → Prop} {Q : VK} (st1 : StR K H1 H01 S1) (rv : Rp K H01 v d) (rs : Rps K H01 vs ds) (hf : callI c F d ds S1 Qd Ed)
    (hq : ∀ d S', Qd d S' → ∀ v H' H0', StR K H' H0' S' → Grow H1 H01 S1 H' H0' S' → Rp K H0' v d → Q v H') (he : ∀ x S', Ed x S' → EX K E H1 H01 S1 x S') : ∃ a dx fs, v = .ref a ∧ H1 a = some (.ins (He.ga K c) dx fs) ∧ SpA K F (v :: vs) H1 Q E := by
  obtain ⟨a, fs, rfl, hS, hf⟩ := hf
  cases rv
  obtain ⟨dx, ws, h1, _, _⟩ := st1.sto a _ hS
  exact ⟨a, dx, ws, rfl, h1, .ref a :: ds, S1, H01, Qd, Ed, st1, .cons (.ref a) rs, hf, hq, he⟩
def natD : D → T D
  | .int i => T.bind (dNeed (0 ≤ i ∧ i < 2 ^ 63)) fun _ => T.pure (.int i)
  | _ => T.fail
def blD (neg : Bool) : D → T D
  | .bl b => T.pure (.bl (if neg then !b else b))
  | _ => T.fail
/-- what stands on the right of an own operator -/
def rightD (c : Str) (d : D) : T Unit := fun S Q _ => ((∃ b fs, d = .ref b ∧ S b = some (.ins c fs)) ∨ ∃ t, tyN d = some t) ∧ Q () S
def rightB (c : Str) (K : PySem.W.Frag) : Bool := ["NoneType", "bool", "int", "str", "tuple", "list"].all fun t => decide (PySem.W.subIn K (.type t) (.ref (He.ga K c)) = some false)
theorem tyN_in {d : D} {t : String} (h : tyN d = some t) : t ∈ ["NoneType", "bool", "int", "str", "tuple", "list"] := by
  cases d <;> first | (cases h; done) | (injection h with h; subst h; decide)
theorem right_of {K : PySem.W.Frag} {c : Str} {H H0 : Hp} {S : Sto} (st : StR K H H0 S) (hB : rightB c K = true) {v : V} {d : D} (r : Rp K H0 v d) (h : (∃ b fs, d = .ref b ∧ S b = some (.ins c fs)) ∨ ∃ t, tyN d = some t) : ∃ t, RightOf K c H v t := by
  rcases h with ⟨b, fs, rfl, hS⟩ | ⟨t, ht⟩
  · cases r
    obtain ⟨dx, ws, h1, _, _⟩ := st.sto b _ hS
    exact ⟨_, .own h1⟩
  · exact ⟨_, .blt (RB.tyX (Ha := H) st (.inl r) ht) (of_decide_eq_true (List.all_eq_true.mp hB t (tyN_in ht)))⟩
section
variable {X : Cx} {j k : Nat} {E : XK} {c : Str} {g : Addr} {F : List D → T D} {a b : Expr} {pos p : Pos} {ma mb : ME}
theorem x_lenI (M : OpM X.K c "__len__" g) (O : OkM X.prog X.w X.K X.mg X.base j g F) (hr : Room k X.A) (hj : j + 1 ≤ k) (hx : Passes (L2.CX X.prog X.w) X E) (hm : X.mg "len" = none) (h : XE X E a ma) (hg : Gl X "len" := by rfl)
    (he : starEach [a] X.env = (false, eval a X.env) :: starEach [] X.env := by rfl) (hpl : (backTo pos (starEach [] X.env)).any (·.1) = false := by rfl) :
    XE X E (.Call (.Name "len" p) [a] [] pos) (fun g => T.bind (ma g) fun d => T.bind (callI c F d []) natD) := by
  refine pe_w (pe_callB (cr_lenOwn M O.fn (hr.mono hj) hx) hg hm bb_len (pa_cons h pa_nil he) (by decide) (by decide) he hpl) fun σ H Q ⟨g, S, H0, Qd, Ed, rel, hm, hq, hexc⟩ => ?_
  refine ⟨g, S, H0, _, Ed, rel, hm, fun d S1 hf v H1 H01 st1 gr1 r1 => ⟨v, rfl, own_sp st1 r1 .nil hf (fun z S2 hz w H2 H02 st2 gr2 rw_ => ?_) fun y S' ey => (hexc y S' ey).grow st1 gr1⟩, hexc⟩
  unfold natD at hz
  split at hz
  · rename_i i
    obtain ⟨⟨h0, h1⟩, hz⟩ := hz
    cases rw_
    exact ⟨i.toNat, by rw [Int.toNat_of_nonneg h0], by rw [Int.toNat_of_nonneg h0]; exact h1, hq _ S2 hz _ H2 H02 st2 (gr1.trans st1 gr2) (.int i)⟩
  · exact hz.elim
theorem x_invI (M : OpM X.K c "__invert__" g) (O : OkM X.prog X.w X.K X.mg X.base j g F) (hr : Room k X.A) (hj : j ≤ k) (hx : Passes (L2.CX X.prog X.w) X E) (h : XE X E a ma) : XE X E (.UnaryOp .Invert a pos) (fun g => T.bind (ma g) fun d => callI c F d []) := by
  refine pe_w (pe_un (un_inv_own M O.fn (hr.mono hj) hx) h) fun σ H Q ⟨g, S, H0, Qd, Ed, rel, hm, hq, hexc⟩ => ?_
  exact ⟨g, S, H0, _, Ed, rel, hm, fun d S1 hf v H1 H01 st1 gr1 r1 => own_sp st1 r1 .nil hf (fun z S2 hz w H2 H02 st2 gr2 rw_ => hq _ S2 hz _ H2 H02 st2 (gr1.trans st1 gr2) rw_) fun y S' ey => (hexc y S' ey).grow st1 gr1, hexc⟩
/-- two operands, from the left -/
theorem two_lf {K : PySem.W.Frag} {r : R2} {f : D → D → T D} {σ : L2.St} {H : Hp} {Q : VK} (h : lf K E (RF K) (fun g => T.bind (ma g) fun x => T.bind (mb g) fun y => f x y) σ H Q)
    (hs : ∀ (v w : V) (d e : D) (H2 H02 : Hp) (S2 : Sto) (Qd : D → Sto → Prop) (Ed : Xn → Sto → Prop), StR K H2 H02 S2 → Rp K H02 v d → Rp K H02 w e → f d e S2 Qd Ed → (∀ z S3, Qd z S3 → ∀ u H3 H03, StR K H3 H03 S3 → Grow H2 H02 S2 H3 H03 S3 → Rp K H03 u z → Q u H3) → (∀ x S', Ed x S' → EX K E H2 H02 S2 x S') → r v w H2 Q) :
    tOp r (lf K E (RF K) ma) (lf K E (RF K) mb) σ H Q := by
  obtain ⟨g, S, H0, Qd, Ed, rel, hm, hq, hexc⟩ := h
  refine ⟨g, S, H0, _, Ed, rel, hm, fun d S1 hf v H1 H01 st1 gr1 r1 => ?_, hexc⟩
  refine ⟨g, S1, H01, _, Ed, rel.grow st1 gr1, hf, fun e S2 hf2 w H2 H02 st2 gr2 r2 => ?_, fun y S' ey => (hexc y S' ey).grow st1 gr1⟩
  have gr := gr1.trans st1 gr2
  exact hs v w d e H2 H02 S2 Qd Ed st2 (r1.sub gr2.sub) r2 hf2 (fun z S3 hz u H3 H03 st3 gr3 r3 => hq z S3 hz u H3 H03 st3 (gr.trans st2 gr3) r3) fun y S' ey => (hexc y S' ey).grow st2 gr
theorem x_ixI (M : OpM X.K c "__getitem__" g) (hfi : PySem.W.fnIn X.K g = true) (O : OkM X.prog X.w X.K X.mg X.base j g F) (hr : Room k X.A) (hj : j + 1 ≤ k) (hx : Passes (L2.CX X.prog X.w) X E) (ha : XE X E a ma) (hb : XE X E b mb)
    (hsl : ∀ o i, subscripted b true o i = runValue (.builtin "lifetime.subscript" ⟨[o, i], []⟩) := by intro _ _; with_unfolding_all rfl) : XE X E (.Subscript a b pos) (fun g => T.bind (ma g) fun x => T.bind (mb g) fun y => callI c F x [y]) :=
  pe_w (pe_item_own M hfi O.fn (hr.mono hj) hx ha hb hsl) fun σ H Q h => two_lf h fun v w d e H2 H02 S2 Qd Ed st rv rw_ hf hq he => own_sp st rv (.cons rw_ .nil) hf hq he
theorem x_inI (M : OpM X.K c "__contains__" g) (O : OkM X.prog X.w X.K X.mg X.base j g F) (hr : Room k X.A) (hj : j ≤ k) (hx : Passes (L2.CX X.prog X.w) X E) (ha : XE X E a ma) (hb : XE X E b mb) (hmk : behindInMarks .In b = false := by rfl) :
    XE X E (.Compare a [.In] [b] pos) (fun g => T.bind (ma g) fun x => T.bind (mb g) fun y => T.bind (callI c F y [x]) (blD false)) :=
  pe_w (pe_cmpR (op_in_own M O.fn (hr.mono hj) hx) ha hb hmk) fun σ H Q h => two_lf h fun v w d e H2 H02 S2 Qd Ed st rv rw_ hf hq he => own_sp st rw_ (.cons rv .nil) hf (fun z S3 hz u H3 H03 st3 gr3 r3 => by
    unfold blD at hz
    split at hz
    · cases r3
      exact ⟨_, rfl, hq _ S3 hz _ H3 H03 st3 gr3 (.bl _)⟩
    · exact hz.elim) he
theorem x_cmpI {op : CmpOp} (hop : ∀ a b, compareOp op a b = richCompare op a b) (M : OpM X.K c (cmpInfo op).2.1 g) (hB : rightB c X.K = true) (O : OkM X.prog X.w X.K X.mg X.base j g F) (hr : Room k X.A) (hj : j ≤ k) (hx : Passes (L2.CX X.prog X.w) X E) (ha : XE X E a ma) (hb : XE X E b mb) (hmk : behindInMarks op b = false := by rfl) :
    XE X E (.Compare a [op] [b] pos) (fun g => T.bind (ma g) fun x => T.bind (mb g) fun y => T.bind (rightD c y) fun _ => callI c F x [y]) :=
  pe_w (pe_cmpR (op_cmp_own hop M O.fn (hr.mono hj) hx) ha hb hmk) fun σ H Q h => two_lf h fun v w d e H2 H02 S2 Qd Ed st rv rw_ hf hq he => ⟨right_of st hB rw_ hf.1, own_sp st rv (.cons rw_ .nil) hf.2 hq he⟩
theorem x_binI {op : Operator} (M : OpM X.K c (PySem.dunder op.info.2) g) (O : OkM X.prog X.w X.K X.mg X.base j g F) (hr : Room k X.A) (hj : j ≤ k) (hx : Passes (L2.CX X.prog X.w) X E) (ha : XE X E a ma) (hb : XE X E b mb) :
    XE X E (.BinOp a op b pos) (fun g => T.bind (ma g) fun x => T.bind (mb g) fun y => insOf c y fun _ _ => callI c F x [y]) :=
  pe_w (pe_op (op_bin_same M O.fn (hr.mono hj) hx) ha hb) fun σ H Q h => two_lf h fun v w d e H2 H02 S2 Qd Ed st rv rw_ hf hq he => by
    obtain ⟨b', fs, rfl, hS, hf⟩ := hf
    cases rw_
    obtain ⟨dy, ws, h1, _, _⟩ := st.sto b' _ hS
    exact ⟨⟨b', dy, ws, rfl, h1⟩, own_sp st rv (.cons (.ref b') .nil) hf hq he⟩
theorem x_callI {fe e : Expr} {es : List Expr} {mf : ME} {me : MA} (hf : XE X E fe mf) (C : StX.CallO X.K (He.ga X.K c) g) (O : OkM X.prog X.w X.K X.mg X.base j g F) (hr : Room k X.A) (hj : j ≤ k) (hx : Passes (L2.CX X.prog X.w) X E) (ha : XA X E (e :: es) me)
    (ht : eval (.Call fe (e :: es) [] pos) X.env = (do callWith pos (← eval fe X.env) [] (backTo pos (starEach (e :: es) X.env)) (backToKw pos (keywordEach [] X.env))) := by rfl)
    (he : starEach (e :: es) X.env = (false, eval e X.env) :: starEach es X.env := by rfl) (hpl : (backTo pos (starEach es X.env)).any (·.1) = false := by rfl) :
    XE X E (.Call fe (e :: es) [] pos) (fun g => T.bind (mf g) fun d => insOf c d fun _ _ => T.bind (me g) fun ds => callI c F d ds) := by
  refine pe_w (StX.pe_callO hf C O.fn (hr.mono hj) hx ha ht he hpl) fun σ H Q ⟨g, S, H0, Qd, Ed, rel, hm, hq, hexc⟩ => ?_
  refine ⟨g, S, H0, _, Ed, rel, hm, fun d S1 hf v H1 H01 st1 gr1 r1 => ?_, hexc⟩
  obtain ⟨p, fs0, rfl, _, hf⟩ := hf
  cases r1
  refine ⟨p, rfl, g, S1, H01, _, Ed, rel.grow st1 gr1, hf, fun ds S2 hf2 vs H2 H02 st2 gr2 r2 => ?_, fun y S' ey => (hexc y S' ey).grow st1 gr1⟩
  have gr := gr1.trans st1 gr2
  obtain ⟨a, dx, fs, e1, h1, h2⟩ := own_sp st2 (.ref p) r2 hf2 (fun z S3 hz u H3 H03 st3 gr3 r3 => hq z S3 hz u H3 H03 st3 (gr.trans st2 gr3) r3) fun y S' ey => (hexc y S' ey).grow st2 gr
  cases e1
  exact ⟨.inr ⟨dx, fs, h1⟩, h2⟩
end
/-! ### isinstance(x, C) of an own class -/
def isiB (c : Str) (K : PySem.W.Frag) : Bool := He.eqO (PySem.W.findIn K (.ref (He.ga K c)) "__class__") (some (some (.builtin "object.__class__"))) && (He.eqO (PySem.W.specialIn K (.builtin "object.__class__") "__get__") (some (some (.builtin "getset_descriptor.__get__"))) && (decide (PySem.W.takesIn K (.builtin "object.__class__") = some true) &&
  (decide (PySem.W.mroIn K (He.ga K c) (.type "object") = some true) && (decide (PySem.W.kitOne K (.ref (He.ga K c)) (.ref (He.ga K c)) = some true) && ["NoneType", "bool", "int", "str", "tuple", "list"].all fun t => decide (PySem.W.kitOne K (.type t) (.ref (He.ga K c)) = some false)))))
def dIsiC (c : Str) : List D → T D := fun ds S Q _ => ∃ d, ds = [d, .glo c] ∧ (((∃ b fs, d = .ref b ∧ S b = some (.ins c fs)) ∧ Q (.bl true) S) ∨ ((∃ t, tyN d = some t) ∧ Q (.bl false) S))
theorem s_isiC {K : PySem.W.Frag} {c : Str} (C : Cls K (He.ga K c)) (hB : isiB c K = true) : CallS K (RF K) (rIsi K) (dIsiC c) := by
  obtain ⟨b1, h⟩ := He.ba hB
  obtain ⟨b2, h⟩ := He.ba h
  obtain ⟨b3, h⟩ := He.ba h
  obtain ⟨b4, h⟩ := He.ba h
  obtain ⟨b5, b6⟩ := He.ba h
  intro vs ds H H0 S Qd Ed Q st rs hf hq
  obtain ⟨d, rfl, hf⟩ := hf
  · obtain ⟨v, w, rfl, rv, rw'⟩ := rs.two
    cases rw'.glo
    rcases hf with ⟨⟨b, fs, rfl, hS⟩, hf⟩ | ⟨⟨t, ht⟩, hf⟩
    · cases rv.ref
      obtain ⟨dx, ws, h1, _, _⟩ := st.sto b _ hS
      exact ⟨_, _, _, _, true, rfl, .own _, .base (.ins h1 C (He.eqO_ok b1) (He.eqO_ok b2) (of_decide_eq_true b3) (of_decide_eq_true b4)), of_decide_eq_true b5, hq _ S hf _ H H0 st (Grow.refl _ _ _) (.bl _)⟩
    · exact ⟨v, _, .type t, _, false, rfl, .own _, rv.tyX st ht, of_decide_eq_true (List.all_eq_true.mp b6 t (tyN_in ht)), hq _ S hf _ H H0 st (Grow.refl _ _ _) (.bl _)⟩
/-! ### bool(x) by an own __bool__ -/
theorem bool_own {prog : Program} {w : World} {A : Around} {E : Value → Shared → Prop} {s : Shared} {K : PySem.W.Frag} {x C f : Addr} {ox : Obj} {od : Option Obj} {Q : Value → Shared → Prop} (KX : K.In s.heap) (I : PySem.W.InstAt s.heap x ox C od) (hs : PySem.W.findIn K (.ref C) "__bool__" = some (some (.ref f))) (hf : PySem.W.isFn K (.ref f) = true)
    (h : wpAny (model prog w) A.in1.in1 (call (.ref f) [.ref x]) (fun v s' => ∃ b, v = .bool b ∧ Q (.bool b) s') E s) : wpAny (model prog w) A (call (.type "bool") [.ref x]) Q E s := by
  refine callType_codes (T := "bool") (Bi := Builtin.«object.__init__») (Q₁ := fun r s₁ => ∃ b, r = .bool b ∧ Q r s₁) PySem.F.called_bool (PySem.F.typeCall_bool_1 _) PySem.F.entry_object_init ?_ ?_
  · refine codeAny_of_tree ?_
    show wpAny _ A.in1.in1 (do checkBuiltinCall "bool.__new__" ⟨[.type "bool", .ref x], []⟩; again (.builtin "bool.__new__" ⟨[.type "bool", .ref x], []⟩)) _ _ s
    refine wpAny_bind (wpAny_of_eq (PySem.F.newCall_bool_1 _) (wpAny_pure ⟨plainId_quiet (by decide +kernel) _, codeAny_builtin PySem.F.entry_bool_new ?_⟩))
    rw [Around.under_plainId (by decide +kernel) _]
    unfold Builtin.«bool.__new__»
    refine wpAny_bind (m := isType (.type "bool")) (wpAny_pure ?_)
    refine wpAny_bind (wpAny_of_eq PySem.F.conv_sub_bool ?_)
    show wpAny _ _ (do
      let l ← someArgs "bool" 0 1 { pos := [Value.ref x] }
      match l with
      | y :: _ => do ret (.bool (← truthy y))
      | [] => ret (.bool false)) _ _ _
    refine wpAny_bind (m := someArgs "bool" 0 1 _) (wpAny_pure ?_)
    unfold truthy
    refine wpAny_bind (wpAny_bind (m := callSpecial? (.ref x) (Str.ofString "__bool__")) (PySem.W.special_fn KX I hs (beq_iff_eq.mp hf) (wpAny_mono h (fun v s' hv => ?_) fun _ _ y => y)))
    obtain ⟨b, rfl, hq⟩ := hv
    exact wpAny_pure (wpAny_pure ⟨_, rfl, hq⟩)
  · rintro obj s₁ ⟨y, rfl, hq⟩
    exact ⟨rfl, PySem.F.args_object_init_2 _ _, object_init_meets PySem.F.called_bool.init.lookup PySem.F.called_bool.made (by decide) prog w A.in1 _ s₁ ⟨rfl, rfl, hq⟩⟩
end DL

set_option Elab.async false
set_option linter.all false
set_option maxRecDepth 100000
set_option maxHeartbeats 4000000
namespace DL
open PySem PySem.Spec PyProof.Rows L2 STx OrdS
section
variable {X : Cx} {j k : Nat} {E : XK} {c : Str} {g : Addr} {F : List D → T D} {sp : Sp} {e : Expr} {p pos : Pos} {me : ME}
theorem cr_boolOwn (M : OpM X.K c "__bool__" g) (O : FnR X.prog X.w X.K X.mg X.base (L2.CX X.prog X.w) k g sp) (hr : Room (k + 2) X.A) (hx : Passes (L2.CX X.prog X.w) X E) :
    CallR X (.type "bool") (fun xs H Q => ∃ x, xs = [x] ∧ sOwn1 X.K c sp E x H fun z H' => ∃ b, z = .bl b ∧ Q z H') := by
  intro pins s σ H us xs Q I r h
  obtain ⟨x, rfl, a, dx, vs, rfl, ha, h⟩ := h
  obtain ⟨u, rfl, ru⟩ := vals1 r
  cases ru
  obtain ⟨ox, od, J⟩ := inst_at I ha
  refine bool_own I.kIn J M.at_ M.fn (wpAny_call ?_)
  refine codeAny_mono (SlX.run_at (ws := [.ref a]) O hr.in1.in1 I.env0.in1.in1 hx I (.cons rfl .nil) h) fun q s' hq => ?_
  cases q with
  | error e => exact hq
  | ok fl =>
    cases fl with
    | ret z =>
      obtain ⟨zv, H', I', rz, b, rfl, hz⟩ := hq
      cases (show z = Value.bool b from rz)
      exact ⟨b, rfl, .bl b, H', I', rfl, hz⟩
    | _ => exact hq
theorem x_boolI (M : OpM X.K c "__bool__" g) (O : OkM X.prog X.w X.K X.mg X.base j g F) (hr : Room k X.A) (hj : j + 2 ≤ k) (hx : Passes (L2.CX X.prog X.w) X E) (hm : X.mg "bool" = none) (h : XE X E e me) (hg : Gl X "bool" := by rfl)
    (he : starEach [e] X.env = (false, eval e X.env) :: starEach [] X.env := by rfl) (hpl : (backTo pos (starEach [] X.env)).any (·.1) = false := by rfl) :
    XE X E (.Call (.Name "bool" p) [e] [] pos) (fun g => T.bind (me g) fun d => T.bind (callI c F d []) (blD false)) := by
  refine pe_w (pe_callTy (cr_boolOwn M O.fn (hr.mono hj) hx) hg hm bb_bool (pa_cons h pa_nil he) (by decide) (by decide) he hpl) fun σ H Q ⟨g, S, H0, Qd, Ed, rel, hm, hq, hexc⟩ => ?_
  refine ⟨g, S, H0, _, Ed, rel, hm, fun d S1 hf v H1 H01 st1 gr1 r1 => ⟨v, rfl, own_sp st1 r1 .nil hf (fun z S2 hz w H2 H02 st2 gr2 rw_ => ?_) fun y S' ey => (hexc y S' ey).grow st1 gr1⟩, hexc⟩
  unfold blD at hz
  split at hz
  · cases rw_
    exact ⟨_, rfl, hq _ S2 hz _ H2 H02 st2 (gr1.trans st1 gr2) (.bl _)⟩
  · exact hz.elim
end
/-! ### x op y, y of a built-in class -/
open PySem.W in
theorem bin_right {prog : Program} {w : World} {A : Around} {E : Value → Shared → Prop} {s : Shared} {K : Frag} {x C f : Addr} {ox : Obj} {od : Option Obj} {T : String} {op : Operator} {y : Value} {lo le lc : Option Value} {Q : Value → Shared → Prop}
    (KX : K.In s.heap) (J : InstAt s.heap x ox C od) (Ly : Looks (model prog w) s.heap (typeOf y) (.type T)) (sf : selfFirst K C = true) (at_ : findIn K (.ref C) (PySem.dunder op.info.2) = some (some (.ref f))) (fn : isFn K (.ref f) = true)
    (rv : findIn K (.ref C) (dunderR op.info.2) = some lc) (rk : lc = none ∨ ∃ g : Addr, lc = some (.ref g)) (t1 : findIn K (.type T) (PySem.dunder op.info.2) = some lo) (t2 : findIn K (.type T) (dunderR op.info.2) = some le) (ts : subIn K (.type T) (.ref C) = some false)
    (h : wpAny (model prog w) A (call (.ref f) [.ref x, y]) (PySem.W.CmpBack Q) E s) : wpAny (model prog w) A (binaryOp op (.ref x) y) Q E s := by
  obtain ⟨cd, tl, e1, e2⟩ := ksp_first sf
  rcases ei : op.info with ⟨sy, nn⟩
  rw [ei] at at_ rv t1 t2
  dsimp only at at_ rv t1 t2
  have go := ksp_try KX J at_ fn h
  obtain ⟨hp, gs, dr, tk, os⟩ := s
  have q1 : Looks (model prog w) hp (typeOf (.ref x)) (.ref C) := J.type
  have q2 : Looks (model prog w) hp (typeOf y) (.type T) := Ly
  have q3 : Looks (model prog w) hp (fillsNumberSlot (.ref C) nn) true := fills_K KX e1 e2 at_
  have q4 := ksp_fillsT (M := model prog w) KX t1 t2
  have q5 : Looks (model prog w) hp (isSubtype (.type T) (.ref C)) false := looks_subIn KX ts
  have q6 : Looks (model prog w) hp (numberSlotInPython (.ref C) nn) true := ksp_inPy KX at_ rv rk
  have q7 : Looks (model prog w) hp (numberSlotInPython (.type T) nn) false := Looks.of_pure rfl
  have q8 : Looks (model prog w) hp (typeLookup (.type T) (dunderR nn)) le := looks_findIn KX t2
  generalize ((lo.isSome && !isSeqSlot lo) || (le.isSome && !isSeqSlot le)) = rt at q4
  have nc : (Value.ref C == Value.type T) = false := by
    cases z : (Value.ref C == Value.type T) with
    | false => rfl
    | true => cases beq_iff_eq.mp z
  simp only [binaryOp, ei]
  refine wpAny_holding (wpAny_bind ?_)
  unfold binaryOp1
  refine wpAny_bind (q1.at (wpAny_bind (q2.at (wpAny_bind (q3.at ?_)))))
  simp only [nc, Bool.false_eq_true, if_false]
  cases rt <;>
  · ksp_lk
    refine wpAny_mono go (fun r s' hr' => ?_) fun _ _ z => z
    obtain ⟨v, rfl, hq⟩ := hr'
    ksp_lk
    exact hq
/-- what an own operator asks of the classes' texts -/
def binB (c : Str) (op : Operator) (K : PySem.W.Frag) : Bool := rightB c K && ((match PySem.W.findIn K (.ref (He.ga K c)) (dunderR op.info.2) with
  | some none => true
  | some (some (.ref _)) => true
  | _ => false) && ["NoneType", "bool", "int", "str", "tuple", "list"].all fun t => (PySem.W.findIn K (.type t) (PySem.dunder op.info.2)).isSome && (PySem.W.findIn K (.type t) (dunderR op.info.2)).isSome)
theorem binB_ok {c : Str} {op : Operator} {K : PySem.W.Frag} (h : binB c op K = true) : rightB c K = true ∧ (∃ lc, PySem.W.findIn K (.ref (He.ga K c)) (dunderR op.info.2) = some lc ∧ (lc = none ∨ ∃ g : Addr, lc = some (.ref g))) ∧
    ∀ t ∈ ["NoneType", "bool", "int", "str", "tuple", "list"], (∃ lo, PySem.W.findIn K (.type t) (PySem.dunder op.info.2) = some lo) ∧ ∃ le, PySem.W.findIn K (.type t) (dunderR op.info.2) = some le := by
  obtain ⟨h1, h⟩ := He.ba h
  obtain ⟨h2, h3⟩ := He.ba h
  refine ⟨h1, ?_, fun t ht => ?_⟩
  · split at h2
    · rename_i e; exact ⟨_, e, .inl rfl⟩
    · rename_i e; exact ⟨_, e, .inr ⟨_, rfl⟩⟩
    · cases h2
  · obtain ⟨k1, k2⟩ := He.ba (List.all_eq_true.mp h3 t ht)
    exact ⟨Option.isSome_iff_exists.mp k1, Option.isSome_iff_exists.mp k2⟩
section
variable {X : Cx} {j k : Nat} {E : XK} {c : Str} {g : Addr} {F : List D → T D} {sp : Sp} {a b : Expr} {p pos : Pos} {ma mb : ME}
theorem op_bin_own {op : Operator} (M : OpM X.K c (PySem.dunder op.info.2) g) (hB : binB c op X.K = true) (O : FnR X.prog X.w X.K X.mg X.base (L2.CX X.prog X.w) k g sp) (hr : Room k X.A) (hx : Passes (L2.CX X.prog X.w) X E) :
    OpR X (binaryOp op) (fun x y H Q => ((∃ b dx vs, y = .ref b ∧ H b = some (.ins (He.ga X.K c) dx vs)) ∨ ∃ t ∈ ["NoneType", "bool", "int", "str", "tuple", "list"], TyX X.K H y (.type t)) ∧ sOwn2 X.K c sp E x y H Q) := by
  intro pins s σ H x y v u Q I rx ry h
  obtain ⟨hy, h⟩ := h
  rcases hy with hy | ⟨t, ht, hy⟩
  · exact op_bin_same M O hr hx pins s σ H x y v u Q I rx ry ⟨hy, h⟩
  · obtain ⟨q, dx, vs, rfl, ha, h⟩ := h
    cases rx
    obtain ⟨ox, od, J⟩ := inst_at I ha
    obtain ⟨b1, ⟨lc, b2, b3⟩, b4⟩ := binB_ok hB
    obtain ⟨⟨lo, b5⟩, le, b6⟩ := b4 t ht
    obtain ⟨P, KX, hP, _⟩ := kit_of I ry hy
    refine bin_right I.kIn J (KX.ty _ _ I.kIn hP) M.sf M.at_ M.fn b2 b3 b5 b6 (of_decide_eq_true (List.all_eq_true.mp b1 t ht)) (wpAny_mono (run_own (vs := [.ref q, y]) O hr hx I (.cons rfl (.cons ry .nil)) h) (fun z s' hz => ?_) fun _ _ y => y)
    obtain ⟨zv, H', I', rz, hz⟩ := hz
    exact SlX.cmpback rz ⟨zv, H', I', rz, hz⟩
theorem x_binR {op : Operator} (M : OpM X.K c (PySem.dunder op.info.2) g) (hB : binB c op X.K = true) (O : OkM X.prog X.w X.K X.mg X.base j g F) (hr : Room k X.A) (hj : j ≤ k) (hx : Passes (L2.CX X.prog X.w) X E) (ha : XE X E a ma) (hb : XE X E b mb) :
    XE X E (.BinOp a op b pos) (fun g => T.bind (ma g) fun x => T.bind (mb g) fun y => T.bind (rightD c y) fun _ => callI c F x [y]) :=
  pe_w (pe_op (op_bin_own M hB O.fn (hr.mono hj) hx) ha hb) fun σ H Q h => two_lf h fun v w d e H2 H02 S2 Qd Ed st rv rw_ hf hq he => by
    obtain ⟨hy, hf⟩ := hf
    refine ⟨?_, own_sp st rv (.cons rw_ .nil) hf hq he⟩
    rcases hy with ⟨b', fs, rfl, hS⟩ | ⟨t, ht⟩
    · cases rw_
      obtain ⟨dy, ws, h1, _, _⟩ := st.sto b' _ hS
      exact .inl ⟨b', dy, ws, rfl, h1⟩
    · exact .inr ⟨t, tyN_in ht, RB.tyX (Ha := H2) st (.inl rw_) ht⟩
end
end DL

set_option Elab.async false
set_option linter.all false
set_option maxRecDepth 100000
set_option maxHeartbeats 4000000
namespace DL
open PySem PySem.Spec PyProof.Rows L2 STx OrdS
/-! ### what a call returns, or a word: try: return a() / except C: return 'w' .. -/
def triedD (cs : List (Str × Str)) (m : T D) : T D := fun S Q E => m S Q fun x S' => x.fs = [] ∧ ∃ w, cs.lookup x.cls = some w ∧ Q (.str w) S'
def triedT (K : PySem.W.Frag) (cs : List (Str × Str)) : (XK → Hp → VK → Prop) → Hp → VK → Prop := fun tl H Q => tl (wordX K cs Q) H Q
def uSuite (w : Str) : Addr → Value → Option Addr → TS := fun _ _ _ D _ H => D.rt (.str w) H
def uCl (K : PySem.W.Frag) (q : Str × Str) : Value × (Addr → Value → Option Addr → TS) := (.ref (He.ga K q.1), uSuite q.2)
theorem u_suite {X : Cx} {w : Str} {j : Nat} {p1 p2 : Pos} (a : Addr) (cls : Value) (d : Option Addr) : PSs X [.Return (some (.Constant (.str w) j p1)) p2] (uSuite w a cls d) := pss_one (ps_ret pe_str)
theorem many_wish {K : PySem.W.Frag} {M : Str} {Q : VK} {D : Ends} {Wout : WX} {rest : List (Value × (Addr → Value → Option Addr → TS))} (hD : D.rt = Q) : ∀ (cs : List (Str × Str)) (ns : List Str), ExcT K M ns → (∀ q ∈ cs, q.1 ∈ ns) → ∀ (cls : Value) (d : Option Addr) (σ : L2.St) (H : Hp), wordX K cs Q cls d H → wMany K Wout D (cs.map (uCl K) ++ rest) cls d σ H
  | [], _, _, _, _, _, _, _, ⟨_, n, w, _, hl, _⟩ => by cases hl
  | (m0, w0) :: r, ns, T, hns, cls, d, σ, H, ⟨ho, n, w, hcl, hl, hq⟩ => by
    have hn1 : n ∈ ns := hns _ (PySem.mem_of_lookup hl)
    subst ho hcl
    refine ⟨_, T.ex n hn1 m0 (hns _ List.mem_cons_self), fun hb a na => ?_, fun hb => ?_⟩
    · obtain rfl : n = m0 := of_decide_eq_true hb
      obtain rfl : w = w0 := by
        simp [List.lookup] at hl
        exact hl.symm
      show D.rt (.str w) H
      rw [hD]; exact hq
    · have ne : n ≠ m0 := of_decide_eq_false hb
      have hl' : r.lookup n = some w := by
        have e' : (n == m0) = false := by simpa using ne
        simp [List.lookup, e'] at hl
        exact hl
      exact many_wish hD r ns T (fun q hq => hns q (List.mem_cons_of_mem _ hq)) _ _ σ H ⟨rfl, n, w, rfl, hl', hq⟩
section
variable {X : Cx}
theorem tried_gives {Ng : List Str} {x a q M : Str} {sg : Scope} {g : Addr} {cdg : Value} {rest : List (Value × (Addr → Value → Option Addr → TS))} {cs : List (Str × Str)} {ns : List Str} {h0 : ExceptHandler} {hds : List ExceptHandler} {p1 p2 p3 p8 : Pos} (T : ExcT X.K M ns) (hns : ∀ q ∈ cs, q.1 ∈ ns) (hNd : Ng.Nodup) (h00 : 0 < Ng.length)
    (hh : ∀ (s : Shared) (H : Hp), HdsOk ((cxOf C8.CX0 X.prog X.w X.K X.mg X.base Ng x sg g cdg X.A X.stack s H C8.E0).nox) (h0 :: hds) (cs.map (uCl X.K) ++ rest)) :
    LamX.GivesTo X Ng x sg g cdg [.Try [.Return (some (.Call (.Name a p1) [] [] p2)) p3] (h0 :: hds) [] [] p8] a q (triedT X.K cs) := by
  intro f c' s H Q tl act hc h
  have s0 : ∀ f : Addr, (L2.start Ng [V.ref f])[0]? = some (some (V.ref f)) := fun f => rfl
  refine ⟨_, pss_one (ps_try_many (X := (cxOf C8.CX0 X.prog X.w X.K X.mg X.base Ng x sg g cdg X.A X.stack s H C8.E0).nox)
      (tb := fun W D σ H => ∃ Ech : XK, (∀ cls d σ' H', Ech cls d H' → W cls d σ' H') ∧ σ[0]? = some (some (.ref f)) ∧ H c' = some (LamX.CodeO c' q) ∧ tl Ech H D.rt)
      rfl rfl LamX.takes0 (fun W pn xe tk _ => ?_) (hh s H)), ?_⟩
  · refine ⟨fun pins s' σ H' D I h' => ?_⟩
    obtain ⟨Ech, hW, h1, h2, h3⟩ := h'
    exact (pss_one (ps_ret (pos := p3) (act W pn xe Ech p1 p2 tk hW))).run pins s' σ H' D I ⟨h1, h2, h3⟩
  · refine ⟨wordX X.K cs Q, fun cls d σ' H' z => ?_, s0 f, hc, h⟩
    exact many_wish rfl cs ns T hns cls d σ' H' z
end
section
variable {X : Cx} {E : XK}
theorem x_lamtried {x a q : Str} {c P : Addr} {k : Nat} {stw : Stmt} {Ng : List Str} {cs : List (Str × Str)} {params : Arguments} {body : Expr} {scope : Scope} {mb : ME} {p lpos pos : Pos}
    (F : ∃ fd, WordDef X.K X.mg x a stw Ng fd) (hG : ∀ cdv, LamX.GivesTo X Ng x (defScope stw) (He.ga X.K x) cdv (defBody stw) a q (triedT X.K cs)) (TB : LamX.TabB X.base X.mg c P) (hcode : X.env.code = .ref c) (hr : Room (k + 2) X.A) (L : LamX.lamSB X.env.scope scope = true)
    (hbody : ∀ (A : Around) (outer : List Env) (s : Shared) (H : Hp) (E : XK) (f c' : Addr), Room k (A.deeper (LamX.lamEnv X scope s.heap.objs.size f c')) → Passes (L2.CX X.prog X.w) (LamX.lamCx X A outer s H E scope f c') E → PE (LamX.lamCx X A outer s H E scope f c') body (lf X.K E (RF X.K) mb))
    (hg : Gl X x := by rfl) (hq : q = X.env.qual ++ "<lambda>" := by rfl) (hdef : defaultsOf params X.env = ([], []) := by rfl)
    (hbind : ∀ (q : Str) (cl : List (Str × Addr)) (pm cv ctv : Value), bindArgs (PySem.W.kla_fn "<lambda>" q params body scope cl pm cv ctv) ⟨[], []⟩ = pure [] := by intro _ _ _ _ _; rfl)
    (hdb : (x == ("__debug__" : Str)) = false := by decide) :
    XE X E (.Call (.Name x p) [.Lambda params body scope lpos] [] pos) (fun g => lamD P q (triedD cs (mb g))) := by
  obtain ⟨fd, F⟩ := F
  obtain ⟨oc, od, dV, kV, doc, pm, an, cdv, ct, osl, rfl, lk, hcd, _, _⟩ := F.fn.ex
  have ps : ∀ (A : Around) (outer : List Env) (s : Shared) (H : Hp) (E : XK) (f c' : Addr), Passes (L2.CX X.prog X.w) (LamX.lamCx X A outer s H E scope f c') E := fun A outer s H E f c' =>
    passes_call (takes_of (E := E) rfl rfl rfl rfl) fun _ _ _ _ h => h
  refine pe_w (Lam3.call hg F.gl F.fn.kp lk hcd F.bi F.sc F.n0 F.vs hq (hG cdv) TB hcode hr (LamX.lamS_by L) hdef hbind (fun A outer s H E f c' h => hbody A outer s H E f c' h (ps A outer s H E f c')) hdb F.da F.ca) fun σ H Q ⟨g, S, H0, Qd, Ed, rel, hm, hq, he⟩ => ?_
  obtain ⟨hT, hm⟩ := hm
  refine ⟨rel.st.sto P _ hT, fun H1 e => ?_⟩
  obtain ⟨st1, gr1⟩ := rel.st.lam hT e
  refine ⟨g, S, H0, _, _, rel.grow st1 gr1, hm, fun d S' h v H' H0' st' gr' r => hq _ S' h _ H' H0' st' (gr1.trans st1 gr') r, fun x S' h o H' H0' st' gr' rx => ?_⟩
  obtain ⟨hf, w, hw, h⟩ := h
  refine ⟨?_, x.cls, w, rfl, hw, hq _ S' h _ H' H0' st' (gr1.trans st1 gr') (.str _)⟩
  rcases rx with ⟨_, e⟩ | ⟨e, _⟩
  · exact e
  · exact absurd hf e
end
section
variable {fa : List He.Fa} {fn : List He.DefD} {ex : PySem.W.Frag → Bool} {K : PySem.W.Frag} {mg : Str → Option Value} (W : Hd fa fn ex K mg) (i : Nat)
include W
theorem Hd.methF {x m : Str} (h : fa[i]? = some (.meth x m)) : Meth K (He.ga K x) m (He.ma K (He.ga K x) m) := He.meth_ok (W.c.fact i h)
end
def fnB (c m : Str) (K : PySem.W.Frag) : Bool := PySem.W.fnIn K (He.ma K (He.ga K c) m)
def callB (c : Str) (K : PySem.W.Frag) : Bool := He.eqO (PySem.W.findIn K (.ref (He.ga K c)) "__call__") (some (some (.ref (He.ma K (He.ga K c) "__call__")))) && (PySem.W.isFn K (.ref (He.ma K (He.ga K c) "__call__")) && fnB c "__call__" K)
theorem callB_ok {c : Str} {K : PySem.W.Frag} (h : callB c K = true) : StX.CallO K (He.ga K c) (He.ma K (He.ga K c) "__call__") := by
  obtain ⟨h1, h⟩ := He.ba h
  obtain ⟨h2, h3⟩ := He.ba h
  exact ⟨He.eqO_ok h1, h2, h3⟩
/-! ### C.f, a whole number of the class -/
def conB (c f : Str) (i : Int) (K : PySem.W.Frag) : Bool := PySem.W.readsIn K (He.ga K c) (.type "type") && (He.eqO (PySem.W.specialIn K (.ref (He.ga K c)) "__getattribute__") (some (some (.builtin "type.__getattribute__"))) && (match PySem.W.findCls K (.ref (He.ga K c)) (.type "type") f with
  | some (.val (.int j _)) => decide (j = i)
  | _ => false))
theorem x_ccon {X : Cx} {E : XK} {c f : Str} {i : Int} {p pos : Pos} (hB : conB c f i X.K = true) (hm : X.mg c = some (.ref (He.ga X.K c))) (hg : Gl X c := by rfl) (hd : (c == ("__debug__" : Str)) = false := by decide)
    (hb : attributeBase (.Name c p) f X.env (eval (.Name c p) X.env) = eval (.Name c p) X.env := by rfl) : XE X E (.Attribute (.Name c p) f pos) (fun _ => T.pure (.int i)) := by
  obtain ⟨h1, h⟩ := He.ba hB
  obtain ⟨h2, h3⟩ := He.ba h
  refine pe_w (ClX.pe_cval (pe_glob hg hm (v := .ref (He.ga X.K c)) rfl hd) hb) fun σ H Q ⟨g, S, H0, Qd, Ed, rel, hm, hq, hexc⟩ => ?_
  split at h3
  · rename_i j t e
    obtain rfl := of_decide_eq_true h3
    exact ⟨_, _, .int j, _, rfl, ⟨h1, He.eqO_ok h2⟩, ⟨e, ⟨_, rfl⟩⟩, hq _ S hm _ H H0 rel.st (Grow.refl _ _ _) (.int j)⟩
  · cases h3
/-! ### own comparisons as tests; -1 -/
section
variable {X : Cx} {j k : Nat} {E : XK} {c : Str} {g : Addr} {F : List D → T D} {a b : Expr} {pos p : Pos} {ma mb : ME}
theorem lt_lf {K : PySem.W.Frag} {m : ME} {σ : L2.St} {H : Hp} {Q : Bool → Hp → Prop} (h : lt K E (fun g => T.bind (m g) dAsB) σ H Q) : lf K E (RF K) m σ H fun x H' => ∃ k, x = .bl k ∧ Q k H' := by
  obtain ⟨g, S, H0, Qd, Ed, rel, hm, hq, hexc⟩ := h
  refine ⟨g, S, H0, _, Ed, rel, hm, fun d S' hd v H' H0' st gr r => ?_, hexc⟩
  obtain ⟨b, rfl, hd⟩ := dAsB_inv hd
  cases r
  exact ⟨b, rfl, hq b S' hd H' H0' st gr⟩
theorem t_cmpI {op : CmpOp} (hop : ∀ a b, compareOp op a b = richCompare op a b) (M : OpM X.K c (cmpInfo op).2.1 g) (hB : rightB c X.K = true) (O : OkM X.prog X.w X.K X.mg X.base j g F) (hr : Room k X.A) (hj : j ≤ k) (hx : Passes (L2.CX X.prog X.w) X E) (ha : XE X E a ma) (hb : XE X E b mb) (hmk : behindInMarks op b = false := by rfl) :
    XT X E (.Compare a [op] [b] pos) (fun g => T.bind (T.bind (ma g) fun x => T.bind (mb g) fun y => T.bind (rightD c y) fun _ => callI c F x [y]) dAsB) :=
  pt_w (pt_cmpR (op_cmp_own hop M O.fn (hr.mono hj) hx) ha hb hmk) fun σ H Q h => two_lf (lt_lf h) fun v w d e H2 H02 S2 Qd Ed st rv rw_ hf hq he => ⟨right_of st hB rw_ hf.1, own_sp st rv (.cons rw_ .nil) hf.2 hq he⟩
theorem t_inI (M : OpM X.K c "__contains__" g) (O : OkM X.prog X.w X.K X.mg X.base j g F) (hr : Room k X.A) (hj : j ≤ k) (hx : Passes (L2.CX X.prog X.w) X E) (ha : XE X E a ma) (hb : XE X E b mb) (hmk : behindInMarks .In b = false := by rfl) :
    XT X E (.Compare a [.In] [b] pos) (fun g => T.bind (T.bind (ma g) fun x => T.bind (mb g) fun y => T.bind (callI c F y [x]) (blD false)) dAsB) :=
  pt_w (pt_cmpR (op_in_own M O.fn (hr.mono hj) hx) ha hb hmk) fun σ H Q h => two_lf (lt_lf h) fun v w d e H2 H02 S2 Qd Ed st rv rw_ hf hq he => own_sp st rw_ (.cons rv .nil) hf (fun z S3 hz u H3 H03 st3 gr3 r3 => by
    unfold blD at hz
    split at hz
    · cases r3
      exact ⟨_, rfl, hq _ S3 hz _ H3 H03 st3 gr3 (.bl _)⟩
    · exact hz.elim) he
theorem x_neg {i : Int} {kk : Nat} : XE X E (.UnaryOp .USub (.Constant (.int i) kk p) pos) (fun _ => T.pure (.int (-i))) :=
  x_c (d := .int (-i)) (v := .int (-i)) ⟨fun pins s σ H Q I h => (pe_un un_neg pe_int).run pins s σ H Q I ⟨i, rfl, h⟩⟩ fun _ => .int _
end
end DL

set_option Elab.async false
set_option linter.all false
set_option maxRecDepth 100000
set_option maxHeartbeats 4000000
namespace DL
open PySem PySem.Spec PyProof.Rows L2 STx OrdS GenW
/-! ### for within a generator -/
section
variable {prog : Program} {w : World} {A : Around} {R : GenEnd} {Y : Protocol} {n : Nat} {s₀ : Shared} {fs : List Frame} {s : Shared} {env : Env}
theorem seg_forLoop {target : Expr} {it : Value} {body orelse : List Stmt}
    (h : wpAny (model prog w) (A.over (.forLoop target it body orelse env) fs) (pyNext it) (fun r s1 => match r with
        | none => Seg (model prog w) A R Y n s₀ (.forLoop target it body orelse env) (.pure (.again (.block orelse env))) fs s1
        | some v => wpAny (model prog w) (A.over (.forLoop target it body orelse env) fs) (letOwnedTupleGo target it v) (fun _ s2 => wpAny (model prog w) (A.over (.forLoop target it body orelse env) fs) (assign target env v) (fun _ s3 =>
            Seg (model prog w) A R Y n s₀ (.forLoop target it body orelse env) ((execs body env).wrap (fun f => match f with
              | .next | .cont => .pure (.again (.forLoop target it body orelse env))
              | .brk => .pure (.done .next)
              | .ret v => .pure (.done (.ret v))) (fun e => (do noteFrame e env; theTreesLotGoes e : Sem Unit).wrap (fun _ => .raise e) .raise id id) id id) fs s3)
            (fun x s' => Seg (model prog w) A R Y n s₀ (.forLoop target it body orelse env) ((do noteFrame x env; theTreesLotGoes x : Sem Unit).wrap (fun _ => .raise x) .raise id id) fs s') s2)
            (fun x s' => Seg (model prog w) A R Y n s₀ (.forLoop target it body orelse env) ((do noteFrame x env; theTreesLotGoes x : Sem Unit).wrap (fun _ => .raise x) .raise id id) fs s') s1)
      (fun x s' => Seg (model prog w) A R Y n s₀ (.forLoop target it body orelse env) ((do noteFrame x env; theTreesLotGoes x : Sem Unit).wrap (fun _ => .raise x) .raise id id) fs s') s) :
    Seg (model prog w) A R Y n s₀ (.forLoop target it body orelse env) ((model prog w).den (.forLoop target it body orelse env)) fs s := by
  show Seg _ A R Y n s₀ _ ((forTurn target it body orelse env).onRaise (fun x => do noteFrame x env; theTreesLotGoes x)) fs s
  unfold forTurn
  rw [Sem.onRaise_eq_wrap]
  refine seg_bind_wrap (wpAny_standAt ?_)
  have hE : ∀ (x : Value) (s' : Shared), Seg (model prog w) A R Y n s₀ (.forLoop target it body orelse env) ((do noteFrame x env; theTreesLotGoes x : Sem Unit).wrap (fun _ => .raise x) .raise id id) fs s' →
      Seg (model prog w) A R Y n s₀ (.forLoop target it body orelse env) ((do noteFrame x env; theTreesLotGoes x : Sem Unit).bind fun _ => .raise x) fs s' := fun x s' hx => by rw [Sem.bind_eq_wrap]; exact hx
  refine seg_bind_wrap (wpAny_onRaise (wpAny_mono h (fun r s1 h1 => ?_) fun x s' hx => wpAny_standAt (hE x s' hx)))
  cases r with
  | none => exact h1
  | some v =>
    refine seg_bind_wrap (wpAny_mono h1 (fun _ s2 h2 => ?_) fun x s' hx => hE x s' hx)
    refine seg_bind_wrap (wpAny_mono h2 (fun _ s3 h3 => ?_) fun x s' hx => hE x s' hx)
    show Seg _ A R Y n s₀ _ (Sem.wrap _ _ _ _ (execs body env >>= fun f => _)) fs s3
    rw [Sem.bind_eq_wrap', Sem.wrap_wrap]
    rw [Sem.wrap_congr (execs body env) _ _ (K' := fun f => match f with
            | .next | .cont => .pure (.again (.forLoop target it body orelse env))
            | .brk => .pure (.done .next)
            | .ret v => .pure (.done (.ret v))) (H' := (fun e => (do noteFrame e env; theTreesLotGoes e : Sem Unit).wrap (fun _ => .raise e) .raise id id))
        (fun f => by cases f <;> rfl)
        (fun e => by first | exact Sem.bind_eq_wrap _ _ | (show (do noteFrame e env; theTreesLotGoes e : Sem Unit).bind (fun _ => .raise e) = _; rw [Sem.bind_eq_wrap]))]
    exact h3
end
def tGFor (wi : TI) (g : TG) (tb : TGn) : TGn := fun D ys σ H => wi σ H fun J H1 => ∃ W : Nat → Nat → List V → L2.St → Hp → Prop, (∃ m, W 0 m ys σ H1) ∧ ∀ i m ys σ H, W i m ys σ H →
  (J.stop i H ∧ D.nx ys σ H) ∨ (J.go i H ∧ ∃ N : List V → L2.St → Hp → Prop, (∀ ys' σ' H', N ys' σ' H' → ∃ m', m' < m ∧ W (i + 1) m' ys' σ' H') ∧ ∀ x H', J.yld i H x H' → g x σ H' fun σ2 H2 => tb { D with nx := N, ct := N, bk := D.nx } ys σ2 H2)
section
variable {X : Cx}
theorem gs_for {tg iter : Expr} {body : List Stmt} {pos : Pos} {wi : TI} {g : TG} {tb : TGn} (hp : PassesOwn (model X.prog X.w) X.A X.env X.xe) (hc : X.calm = true) (hi : PI X tg iter wi) (hg : PG X tg g) (hb : GSs X body tb)
    (hs : ∀ x, foldedSetIterable iter X.env x = pure x := by intro _; rfl) : GS X (.For tg iter body [] pos) (tGFor wi g tb) := by
  refine ⟨fun A S ip R n ys s₀ c fs K J gd lv s σ H D g0 hn k hI ht => ?_⟩
  obtain ⟨acc, cc, r, I⟩ := hI
  rw [exec_For]
  refine seg_bind_wrap (wpAny_standAt ?_)
  refine seg_bind_wrap ?_
  rw [g0.over]
  refine wpAny_mono (hi.run _ s σ H _ I ht) (fun v s1 h1 => ?_) fun x s' hx => k.exc n s₀ x s' hx
  refine seg_bind_wrap (wpAny_of_eq (hs v) ?_)
  refine seg_bind_wrap (wpAny_standAt ?_)
  refine seg_bind_wrap (wpAny_holding ?_)
  rw [g0.over]
  refine wpAny_mono h1 (fun itv s2 h2 => ?_) fun x s' hx => k.exc n s₀ x s' hx
  obtain ⟨it, fp, tn, Jt, H2, rfl, I2, T, st2, f2, W, ⟨m0, w0⟩, turn⟩ := h2
  refine seg_call fun p => ?_
  have hSf : ∀ b ∈ fp, b ≠ S := fun b hb e => (f2 b hb).2.2.2.2.2 (S, lstObj acc cc) (List.mem_append_right _ List.mem_cons_self) e.symm
  have stat : ∀ {acc' : Array Value} {cc' : Nat} {H' : Hp}, (∀ b ∈ fp, H' b = none) → ∀ b ∈ fp, FpOk X ((S, lstObj acc' cc') :: ip) H' b := fun hn b hb => by
    obtain ⟨_, q1, q2, q3, q4, q5⟩ := f2 b hb
    refine ⟨hn b hb, q1, q2, q3, q4, fun p hp => ?_⟩
    rcases List.mem_append.mp hp with hp | hp
    · exact q5 p (List.mem_append_left _ hp)
    · rcases List.mem_cons.mp hp with hp | hp
      · rw [hp]; exact q5 (S, lstObj acc cc) (List.mem_append_right _ List.mem_cons_self)
      · exact q5 p (List.mem_append_right _ (List.mem_cons_of_mem _ hp))
  have gl := fun (kk : Result → Sem PySem.Fin) => gc_loop (k := kk) (c' := .forLoop tg (.ref it) body [] X.env) (l := lv []) (kp := []) (p := p) g0 rfl rfl
  have loop : ∀ (m i n : Nat) (ys : List V) (s₀ s : Shared) (σ : L2.St) (H : Hp), n + ys.length = sizeLine → W i m ys σ H → GI X S ip ys σ H s → tn i s.heap → (∀ b ∈ fp, H b = none) →
      Seg (model X.prog X.w) A R (GY X S) n s₀ (.forLoop tg (.ref it) body [] X.env) ((model X.prog X.w).den (.forLoop tg (.ref it) body [] X.env))
        (.ret (fun r => ((match r with | .ok f => (.pure f : Sem Flow) | .error e => .raise e).onRaise (cameBack X.env)).wrap K J gd lv) none (gd false) (lv []) c p [] :: fs) s := by
    intro m
    induction m using Nat.strongRecOn with
    | ind m ih =>
      intro i n ys s₀ s3 σ3 H3 hn w3 hI3 st3 fr3
      have ee : ∀ (n : Nat) (s₀ : Shared) (x : Value) (s' : Shared), X.xe x s' → Seg (model X.prog X.w) A R (GY X S) n s₀ (.forLoop tg (.ref it) body [] X.env)
          ((do noteFrame x X.env; theTreesLotGoes x : Sem Unit).wrap (fun _ => .raise x) .raise id id)
          (.ret (fun r => ((match r with | .ok f => (.pure f : Sem Flow) | .error e => .raise e).onRaise (cameBack X.env)).wrap K J gd lv) none (gd false) (lv []) c p [] :: fs) s' := fun n s₀ x s' hx => by
        refine seg_wrap ?_
        rw [(gl _).over]
        refine wpAny_bind (wpAny_mono (hp x s' hx) (fun _ s'' hcb => wpAny_theTreesLotGoes ?_) fun y s'' hcb => ?_)
        · exact seg_leaf (.error x) (seg_cameBack g0 k hcb)
        · exact seg_leaf (.error y) (seg_cameBack g0 k hcb)
      refine seg_forLoop ?_
      rw [(gl _).over]
      obtain ⟨acc3, cc3, r3, I3⟩ := hI3
      rcases turn i m ys σ3 H3 w3 with ⟨stop, qn⟩ | ⟨go, N, hN, step⟩
      · refine wpAny_mono (T.done X rfl rfl rfl hc i _ s3 σ3 H3 X.xe I3 (stat fr3) st3 stop) (fun r s4 ⟨hr, I4⟩ => ?_) fun x s' hx => ee n s₀ x s' hx
        subst hr
        refine seg_again rfl ?_
        exact seg_leaf (.ok .next) (k.ok n ys s₀ s4 .next hn ⟨σ3, H3, ⟨acc3, cc3, r3, I4⟩, qn⟩)
      · refine wpAny_mono (T.item X rfl rfl rfl hc i _ s3 σ3 H3 X.xe I3 (stat fr3) st3 go) (fun r s4 ⟨u, hr, h4⟩ => ?_) fun x s' hx => ee n s₀ x s' hx
        subst hr
        refine wpAny_mono h4 (fun _ s5 ⟨x, H5, I5, r5, y5, st5, fr5⟩ => ?_) fun x s' hx => ee n s₀ x s' hx
        have I5' := I5.pinned (stat fr5) (T.obj _ _ st5)
        refine wpAny_mono (hg.run _ s5 σ3 H5 x u _ I5' r5 (step x H5 y5)) (fun _ s6 ⟨σ6, H6, I6, q6⟩ => ?_) fun x s' hx => ee n s₀ x s' hx
        refine hb.run A S (ip ++ pinsAt fp s5.heap) R n ys s₀ _ _ _ _ id id s6 σ6 H6 { D with nx := N, ct := N, bk := D.nx } { gl _ with ip := fun p hp => ?_ } hn ⟨fun n' ys' s₀' s7 f hn' hs => ?_, fun n' s₀' x s7 hx => ee n' s₀' x s7 hx⟩ ⟨acc3, cc3, r3, I6⟩ q6
        · rcases List.mem_append.mp hp with hp | hp
          · exact g0.ip p hp
          · exact hSf p.1 (of_pinsAt hp).1
        · have back : ∀ {ys' : List V} {σ7 : L2.St} {H7 : Hp}, GI X S (ip ++ pinsAt fp s5.heap) ys' σ7 H7 s7 → GI X S ip ys' σ7 H7 s7 ∧ tn (i + 1) s7.heap ∧ ∀ b ∈ fp, H7 b = none := fun {ys' σ7 H7} hI => by
            obtain ⟨acc7, cc7, r7, I7⟩ := hI
            have I7 : L2.Inv X (((S, lstObj acc7 cc7) :: ip) ++ pinsAt fp s5.heap) σ7 H7 s7 := I7
            refine ⟨⟨acc7, cc7, r7, I7.unpinned⟩, T.keep _ _ _ st5 fun b hb o e => (I7.pin (b, o) (List.mem_append_right _ (List.mem_append_right _ (mem_pinsAt hb e)))).1, fun b hb => ?_⟩
            obtain ⟨o, e, d⟩ := T.obj _ _ st5 b hb
            exact (I7.pin (b, o) (List.mem_append_right _ (List.mem_append_right _ (mem_pinsAt hb e)))).2.1
          cases f with
          | next =>
            obtain ⟨σ7, H7, I7, n7⟩ := hs
            obtain ⟨m', hm, w7⟩ := hN ys' σ7 H7 n7
            obtain ⟨b1, b2, b3⟩ := back I7
            exact seg_again rfl (ih m' hm (i + 1) n' ys' s₀' s7 σ7 H7 hn' w7 b1 b2 b3)
          | cont =>
            obtain ⟨σ7, H7, I7, n7⟩ := hs
            obtain ⟨m', hm, w7⟩ := hN ys' σ7 H7 n7
            obtain ⟨b1, b2, b3⟩ := back I7
            exact seg_again rfl (ih m' hm (i + 1) n' ys' s₀' s7 σ7 H7 hn' w7 b1 b2 b3)
          | brk =>
            obtain ⟨σ7, H7, I7, n7⟩ := hs
            exact seg_leaf (.ok .next) (k.ok n' ys' s₀' s7 .next hn' ⟨σ7, H7, (back I7).1, n7⟩)
          | ret v =>
            obtain ⟨x7, σ7, H7, I7, rx7, n7⟩ := hs
            exact seg_leaf (.ok (.ret v)) (k.ok n' ys' s₀' s7 (.ret v) hn' ⟨x7, σ7, H7, (back I7).1, rx7, n7⟩)
  exact loop m0 0 n ys s₀ s2 σ H2 hn w0 ⟨acc, cc, r, I2⟩ st2 fun b hb => (f2 b hb).1
end
end DL

set_option Elab.async false
set_option linter.all false
set_option maxRecDepth 100000
set_option maxHeartbeats 4000000
namespace DL
open PySem PySem.Spec PyProof.Rows L2 STx OrdS GenW
/-! ### generators, in data -/
abbrev MGn := Sg → T (List D)
def lgn (K : PySem.W.Frag) (b : Bs) (m : MGn) : TGn := fun D ys σ H => ys = [] ∧ ∃ g S H0 Qd, RelB K b σ H H0 S g ∧ m g S Qd (fun _ _ => False) ∧
  ∀ ds S', Qd ds S' → ∀ vs σ' H' H0', StR K H' H0' S' → Grow b.H b.H0 b.S H' H0' S' → Rps K H0' vs ds → D.nx vs σ' H'
section
variable {X : Cx} {E : XK} {b : Bs} {st : Stmt} {rest : List Stmt} {ms : MS} {m : MGn}
theorem gss_w {st : List Stmt} {t t' : TGn} (h : GSs X st t) (w : ∀ D ys σ H, t' D ys σ H → t D ys σ H) : GSs X st t' :=
  ⟨fun A S ip R n ys s₀ c fs K J gd lv s σ H D g hn k hI ht => h.run A S ip R n ys s₀ c fs K J gd lv s σ H D g hn k hI (w D ys σ H ht)⟩
def nxO (o : Out) (k : MGn) : T (List D) := match o with
  | .nx g => k g
  | _ => T.fail
theorem gn_cons (h1 : XS X E b st ms) (h2 : GSs X rest (lgn X.K b m)) : GSs X (st :: rest) (lgn X.K b fun g => T.bind (ms g) fun o => nxO o m) := by
  refine gss_w (gss_cons (gs_ps h1) h2) fun D ys σ H ⟨hy, g, S, H0, Qd, r, hm, hq⟩ => ?_
  subst hy
  refine ⟨g, S, H0, _, fun _ _ => False, r, hm, fun o S1 hf => ?_, fun _ _ z => z.elim⟩
  cases o with
  | nx g1 => exact fun σ1 H1 H01 r1 sb => ⟨rfl, g1, S1, H01, Qd, r1, hf, hq⟩
  | rt d => exact hf.elim
  | bk g1 => exact hf.elim
  | ct g1 => exact hf.elim
def yT (f : D → Sg → T Sg) (me : ME) : List D → MGn
  | [], _ => T.pure []
  | d :: r, g => T.bind (f d g) fun g1 => T.bind (me g1) fun x => T.bind (yT f me r g1) fun xs => T.pure (x :: xs)
theorem gn_yfor {tg iter e : Expr} {is : List Nat} {t : TG} {f : D → Sg → T Sg} {mi : MI} {me : ME} {yp yps pos : Pos} (hp : PassesOwn (model X.prog X.w) X.A X.env X.xe) (hc : X.calm = true) (hi : XI X E tg iter mi) (hg : PG X tg t) (ht : TgS X.K is t f) (he : XE X E e me)
    (hs : ∀ x, foldedSetIterable iter X.env x = pure x := by intro _; rfl) (hco : X.env.scope.isCoroutine = false := by rfl) (hin : interactive X.env = false := by rfl) :
    GSs X [.For tg iter [.Expr (.Yield (some e) yp) yps] [] pos] (lgn X.K b fun g => T.bind (mi g) fun ds => T.bind (dNeed (ds.length ≤ 1000)) fun _ => yT f me ds g) := by
  refine gss_w (gss_cons (gs_for hp hc hi hg (gss_cons (gs_yield he hco hin) gss_nil) hs) gss_nil) fun D ys σ H ⟨hy, g, S, H0, Qd, r, hm, hq⟩ => ?_
  subst hy
  refine ⟨g, S, H0, _, fun _ _ => False, r.rel, hm, fun ds S1 hf J H1 H01 st1 gr1 wk => ?_, fun _ _ z => z.elim⟩
  obtain ⟨hz, hf⟩ := hf
  have big := big_line
  refine ⟨fun i k ys σ2 H2 => k = ds.length - i ∧ i ≤ ds.length ∧ ys.length = i ∧ ∃ out g2 S2 H02, RelB X.K b σ2 H2 H02 S2 g2 ∧ Sub H01 H02 ∧ Rps X.K H02 ys out ∧ yT f me (ds.drop i) g2 S2 (fun xs S' => Qd (out ++ xs) S') (fun _ _ => False),
    ⟨ds.length, by simp, Nat.zero_le _, rfl, [], g, S1, H01, r.grow st1 gr1, sbr, .nil, hf⟩, ?_⟩
  rintro i k ys σ2 H2 ⟨rfl, hle, hl, out, g2, S2, H02, r2, s2, ro, hr⟩
  by_cases hlt : i < ds.length
  · have hd : ds[i]? = some ds[i] := List.getElem?_eq_getElem hlt
    rw [List.drop_eq_getElem_cons hlt] at hr
    obtain ⟨go, yld⟩ := (wk H2 H02 S2 r2.rel.st s2 i).1 _ hd
    refine .inr ⟨go, fun ys3 σ3 H3 => i + 1 ≤ ds.length ∧ ys3.length = i + 1 ∧ ∃ out g3 S3 H03, RelB X.K b σ3 H3 H03 S3 g3 ∧ Sub H01 H03 ∧ Rps X.K H03 ys3 out ∧ yT f me (ds.drop (i + 1)) g3 S3 (fun xs S' => Qd (out ++ xs) S') (fun _ _ => False),
      fun ys3 σ3 H3 q => ⟨ds.length - (i + 1), by omega, rfl, q⟩, fun x H3 hy => ?_⟩
    obtain ⟨H03, st3, gr3, rx⟩ := yld x H3 hy
    have r3 := r2.grow st3 gr3
    have s3 : Sub H01 H03 := fun a o q => gr3.sub a o (s2 a o q)
    refine ht x ds[i] σ2 g2 H3 H03 S2 _ (fun _ _ => False) _ r3.rel rx hr fun g4 hg4 σ4 hl4 ha un ow => ?_
    have r4 := r3.owned (un _ _ _ r3.rel sbr) ow
    refine ⟨by rw [hl]; omega, g4, S2, H03, _, fun _ _ => False, r4.rel, hg4, fun d S5 hf5 v H5 H05 st5 gr5 rv => ?_, fun _ _ z => z.elim⟩
    refine ⟨hlt, by rw [List.length_append, hl]; rfl, out ++ [d], g4, S5, H05, r4.grow st5 gr5, fun a o q => gr5.sub a o (s3 a o q), (ro.sub fun a o q => gr5.sub a o (gr3.sub a o q)).append (.cons rv .nil), ?_⟩
    have e : (fun xs S' => Qd ((out ++ [d]) ++ xs) S') = fun xs S' => Qd (out ++ (d :: xs)) S' := by
      funext xs S'
      rw [List.append_assoc]; rfl
    rw [e]
    exact hf5
  · obtain rfl : i = ds.length := by omega
    rw [List.drop_length] at hr
    have hr : Qd (out ++ []) S2 := hr
    rw [List.append_nil] at hr
    exact .inl ⟨(wk H2 H02 S2 r2.rel.st s2 _).2 rfl, hq _ S2 hr ys σ2 H2 H02 r2.rel.st r2.gb ro⟩
end
/-! ### a generator method -/
def SpGn (K : PySem.W.Frag) (n : Nat) (F : List D → T (List D)) : SpG := fun vs H Q _ => ∃ ds S H0 Qd, StR K H H0 S ∧ Rps K H0 vs ds ∧ ds.length = n ∧ F ds S Qd (fun _ _ => False) ∧
  ∀ out S', Qd out S' → ∀ us H' H0', StR K H' H0' S' → Grow H H0 S H' H0' S' → Rps K H0' us out → Q us H'
abbrev genCx (P : Program) (w : World) (K : PySem.W.Frag) (mg : Str → Option Value) (base : Heap) (N : List Str) (qual : Str) (st : Stmt) (f : Addr) (cdv : Value) (A : Around) (outer : List Env) (s : Shared) (H : Hp) (E : XK) (pn : List (Addr × Obj)) : Cx := gcxOf P w K mg base N qual (defScope st) f cdv A outer s H E pn
section
variable {P : Program} {w : World} {K : PySem.W.Frag} {mg : Str → Option Value} {base : Heap}
theorem passG {N : List Str} {x : Str} {st : Stmt} {f : Addr} {cdv : Value} {A : Around} {outer : List Env} {s : Shared} {H : Hp} {E : XK} {pn : List (Addr × Obj)} : Passes (L2.CX P w) (genCx P w K mg base N x st f cdv A outer s H E pn) E := passes_call takes_gcx fun _ _ _ _ h => h
theorem ownG {N : List Str} {x : Str} {st : Stmt} {f : Addr} {cdv : Value} {A : Around} {outer : List Env} {s : Shared} {H : Hp} {E : XK} {pn : List (Addr × Obj)} : PassesOwn (model P w) (genCx P w K mg base N x st f cdv A outer s H E pn).A (genCx P w K mg base N x st f cdv A outer s H E pn).env (genCx P w K mg base N x st f cdv A outer s H E pn).xe := owns_gcx
theorem mk_gfn {x qual : Str} {st : Stmt} {f : Addr} {N ps : List Str} {k : Nat} {F : List D → T (List D)} {m : MGn} (Fn : ∃ fd, FnP K x qual st f fd) (Sc : GScope N ps (defScope st))
    (hb : ∀ (kV doc pm : Value) (an : Option Addr) (cdv ct : Value) (us : List Value), us.length = ps.length → bindArgs (PySem.W.fnOf x qual (defArgs st) (defBody st) (defScope st) .none kV doc pm an cdv ct) ⟨us, []⟩ = pure (ps.zip us))
    (hbody : ∀ (cdv : Value) (A : Around) (outer : List Env) (s : Shared) (H : Hp) (E : XK) (pn : List (Addr × Obj)) (b : Bs), Room k (genCx P w K mg base N qual st f cdv A outer s H E pn).A → GSs (genCx P w K mg base N qual st f cdv A outer s H E pn) (defBody st) (lgn K b m))
    (hF : ∀ ds S Qd Ed, ds.length = ps.length → F ds S Qd Ed → m (startG N.length ds) S Qd Ed) : ∃ fd, GFn P w K mg base (k + 1) f fd ps (SpGn K ps.length F) ∧ L2.Binds K fd ps [] := by
  obtain ⟨fd, Fn⟩ := Fn
  have bi := FunD.bindsN Fn hb
  obtain ⟨oc, od, dV, kV, doc, pm, an, cdv, ct, osl, rfl, lk, hcd, _, _⟩ := Fn.ex
  refine ⟨_, gfn_of lk hcd Sc (fun vs H Q E h => ?_) (fun A outer s H vs Q E pn hr h => ?_), bi⟩
  · obtain ⟨ds, S, H0, Qd, st', r, hl, _⟩ := h
    rw [r.length, hl]
  · obtain ⟨ds, S, H0, Qd, st', r, hl, hf, hq⟩ := h
    exact ⟨_, hbody cdv A outer s H E pn ⟨H, H0, S⟩ hr, rfl, startG N.length ds, S, H0, Qd, relB_start st' r, hF ds S Qd _ hl hf, fun ds S' q vs σ' H' H0' a b c => hq ds S' q vs H' H0' a b c⟩
end
section
variable {X : Cx} {j k : Nat} {E : XK} {c m : Str} {f : Addr} {F : List D → T (List D)} {o : Expr} {p pos pos' apos : Pos} {mo : ME} {ps : List Str} {pl : Sem Bool}
/-- list(o.m()) -/
theorem x_listG (C : Cls X.K (He.ga X.K c)) (M : Meth X.K (He.ga X.K c) m f) (O : ∃ fd, GFn X.prog X.w X.K X.mg X.base j f fd ps (SpGn X.K ps.length F) ∧ L2.Binds X.K fd ps []) (hr : Room k X.A) (hj : j + 3 ≤ k) (hm : X.mg "list" = none) (ho : XE X E o mo) (hg : Gl X "list" := by rfl)
    (ht : eval (.Call (.Attribute o m apos) [] [] pos') X.env = (do
      let ov ← eval o X.env
      standAt apos.atName
      let (f, first) ← holding [ov] (getMethod ov m pl)
      callWith pos' f first (backTo pos' (starEach [] X.env)) (backToKw pos' (keywordEach [] X.env))) := by rfl)
    (he : starEach [Expr.Call (.Attribute o m apos) [] [] pos'] X.env = (false, eval (.Call (.Attribute o m apos) [] [] pos') X.env) :: starEach [] X.env := by rfl) :
    XN X E (.Call (.Name "list" p) [.Call (.Attribute o m apos) [] [] pos'] [] pos) (fun g => T.bind (mo g) fun d => insOf c d fun _ fs => T.bind (dNeed (fs.lookup m = none ∧ 1 = ps.length)) fun _ => T.bind (noX (F [d])) fun xs => T.pure (.lst xs)) := by
  obtain ⟨fd, G, bi⟩ := O
  refine pe_w (pe_listG (k := j) (pgen_meth0 (pl := pl) (E := fun _ _ _ => False) ho C M G (hr.mono (by omega)) bi .nil ht) passN (fun _ _ _ z => z.elim) (hr.mono hj) hg hm (by decide +kernel) (by decide) (by decide) he) fun σ H Q ⟨g, S, H0, Qd, Ed, rel, hm, hq, hexc⟩ => ?_
  refine ⟨g, S, H0, _, Ed, rel, hm, fun d S1 hf v H1 H01 st1 gr1 r1 => ?_, hexc⟩
  obtain ⟨a, fs, rfl, hS, ⟨hn, hl⟩, hf⟩ := hf
  cases r1
  obtain ⟨dx, vs, h1, hk, _⟩ := st1.sto a _ hS
  refine ⟨a, dx, vs, rfl, h1, flds_none hk hn, [.ref a], S1, H01, _, st1, .cons (.ref a) .nil, hl, hf, fun out S2 q us H2 H02 st2 gr2 ru q' hq' => ?_⟩
  obtain ⟨st3, gr3, n0, nS⟩ := alloc_n st2 hq' (.lst us)
  have g12 := gr1.trans st1 gr2
  exact hq _ S2 q _ _ _ st3 (g12.trans st2 gr3) (.inl ⟨q', us, out, rfl, rfl, g12.fresh st2 hq', upd_same, n0, nS, ru⟩)
end
/-! ### f-strings of several parts -/
def jD : List ME → Str → ME
  | [], acc, _ => T.pure (.str acc)
  | m :: r, acc, g => T.bind (m g) fun d => T.bind (dAsS d) fun y => T.bind (dNeed ((acc ++ y).length ≤ sizeLine)) fun _ => jD r (acc ++ y) g
inductive XJ (X : Cx) (E : XK) : List Expr → List ME → Prop
  | nil : XJ X E [] []
  | cons {e : Expr} {m : ME} {es : List Expr} {ms : List ME} : XE X E e m → XJ X E es ms → XJ X E (e :: es) (m :: ms)
section
variable {X : Cx} {E : XK}
theorem XJ.pj {es : List Expr} {ms : List ME} (h : XJ X E es ms) : PJ X es (ms.map fun m => lf X.K E (RF X.K) m) := by
  induction h with
  | nil => exact .nil
  | cons a b ih => exact .cons a ih
theorem jD_lf {K : PySem.W.Frag} {Q : VK} : ∀ (ms : List ME) (acc : Str) {σ : L2.St} {H : Hp}, lf K E (RF K) (jD ms acc) σ H Q → tJs (ms.map fun m => lf K E (RF K) m) acc σ H fun out H1 => Q (.str out) H1
  | [], acc, σ, H, ⟨g, S, H0, Qd, Ed, rel, hm, hq, he⟩ => hq _ S hm _ H H0 rel.st (Grow.refl _ _ _) (.str _)
  | m :: r, acc, σ, H, ⟨g, S, H0, Qd, Ed, rel, hm, hq, he⟩ => by
    refine ⟨g, S, H0, _, Ed, rel, hm, fun d S1 hf v H1 H01 st1 gr1 r1 => ?_, he⟩
    obtain ⟨y, rfl, hf⟩ := dAsS_inv hf
    obtain ⟨hz, hf⟩ := hf
    cases r1
    exact ⟨y, rfl, hz, jD_lf r (acc ++ y) ⟨g, S1, H01, Qd, Ed, rel.grow st1 gr1, hf, fun d S' q v H' H0' st' gr' r' => hq d S' q v H' H0' st' (gr1.trans st1 gr') r', fun x S' ex => (he x S' ex).grow st1 gr1⟩⟩
theorem x_joined {v1 v2 : Expr} {rest : List Expr} {ms : List ME} {pos : Pos} (h : XJ X E (v1 :: v2 :: rest) ms) : XE X E (.JoinedStr (v1 :: v2 :: rest) pos) (jD ms Str.empty) :=
  pe_w (pe_joined h.pj) fun _ _ _ h => jD_lf ms _ h
theorem x_fmtv {e : Expr} {me : ME} {p2 : Pos} (h : XE X E e me) : XE X E (.FormattedValue e (-1) none p2) (fun g => T.bind (me g) fmtD) := by
  refine pe_w (pe_fmt h) fun σ H Q ⟨g, S, H0, Qd, Ed, rel, hm, hq, hexc⟩ => ?_
  refine ⟨g, S, H0, _, Ed, rel, hm, fun d S1 hf v H1 H01 st1 gr1 r1 => ?_, hexc⟩
  unfold fmtD at hf
  split at hf
  · obtain ⟨hl, hf⟩ := hf
    cases r1
    exact .inl ⟨_, rfl, hl, hq _ S1 hf _ H1 H01 st1 gr1 (.str _)⟩
  · exact hf.elim
end
end DL

set_option Elab.async false
set_option linter.all false
set_option maxRecDepth 100000
set_option maxHeartbeats 4000000
namespace DL
open PySem PySem.Spec PyProof.Rows L2 STx OrdS
/-! ### lists of the store -/
def newR (xs : List D) : T D := fun S Q _ => ∀ p, S p = none → Q (.ref p) (S.up p (.lst xs))
def newL : D → T D
  | .lst xs => newR xs
  | _ => T.fail
def lstOf {α : Type} (d : D) (f : Addr → List D → T α) : T α := fun S Q E => ∃ a xs, d = .ref a ∧ S a = some (.lst xs) ∧ f a xs S Q E
section
variable {X : Cx} {E : XK} {b : Bs} {e o : Expr} {me mo : ME} {pos p : Pos}
/-- a new list, of the store from here on -/
theorem XN.sto (h : XN X E e me) : XE X E e (fun g => T.bind (me g) newL) := by
  refine pe_w h fun σ H Q ⟨g, S, H0, Qd, Ed, rel, hm, hq, he⟩ => ⟨g, S, H0, _, Ed, rel, hm, fun d S1 hf v H1 H01 st1 gr1 r1 => ?_, he⟩
  unfold newL at hf
  split at hf
  · rcases r1 with ⟨p, xs, ds, rfl, e2, h0, h1, h2, h3, rr⟩ | ⟨p, kvs, ks, ds, e1, e2, _⟩
    · cases e2
      exact hq _ _ (hf p h3) _ H1 H01 (st1.newS h2 (m' := .lst _) ⟨xs, h1, rr⟩) (gr1.newS h0) (.ref p)
    · cases e2
  · exact hf.elim
def dLenM : List D → T D
  | [.ref a] => lstOf (.ref a) fun _ xs => T.pure (.int xs.length)
  | _ => T.fail
theorem s_lenM {K : PySem.W.Frag} : CallS K (RF K) (fun xs H Q => ∃ x n, xs = [x] ∧ LenV K x H n ∧ Q (.int n) H) dLenM := by
  intro vs ds H H0 S Qd Ed Q st rs hf hq
  unfold dLenM at hf
  split at hf
  · obtain ⟨v, rfl, rv⟩ := rs.one
    cases rv.ref
    obtain ⟨a, xs, e, hS, hf⟩ := hf
    cases e
    obtain ⟨ws, h1, r⟩ := st.sto _ _ hS
    refine ⟨_, ws.length, rfl, .inl ⟨ws, .of h1, rfl⟩, ?_⟩
    rw [r.length]
    exact hq _ S hf _ H H0 st (Grow.refl _ _ _) (.int _)
  · exact hf.elim
/-- o.append(e) -/
def appM (mo me : ME) : MS := fun g => T.bind (mo g) fun x => lstOf x fun _ _ => T.bind (me g) fun d => lstOf x fun a xs => T.bind (dNeed (xs.length < sizeLine)) fun _ => setI a (.lst (xs ++ [d])) g
theorem s_appM {apos cpos epos : Pos} (ho : XE X E o mo) (h : XE X E e me) (hbase : attributeBase o "append" X.env (eval o X.env) = eval o X.env := by rfl)
    (hfew : ((backTo cpos (starEach [e] X.env)).all (fun x => !x.1) && (backToKw cpos (keywordEach [] X.env)).all (fun x => x.1.isSome)
      && decide ([e].length + ([] : List Keyword).length + (if ([] : List Keyword).isEmpty then 0 else 1) < 30)) = true := by rfl)
    (hline : (apos.endLine == cpos.line) = true := by rfl) (hs : starEach [e] X.env = (false, eval e X.env) :: starEach [] X.env := by rfl) (hsw : swapsWith (.Call (.Attribute o "append" apos) [e] [] cpos) none epos.line X.env = pure false := by rfl) :
    XS X E b (.Expr (.Call (.Attribute o "append" apos) [e] [] cpos) epos) (appM mo me) := by
  refine ps_w (ps_expr (pe_bm PySem.F.plainAttrs_list PySem.F.slot_list_append PySem.F.type_list_append mt_append ho (pa_cons h pa_nil hs) hbase hfew hline hs rfl) hsw) fun D σ H ⟨g, S, H0, Qd, Ed, r, hm, hq, he⟩ => ?_
  refine ⟨g, S, H0, _, Ed, r.rel, hm, fun x S1 hf v H1 H01 st1 gr1 r1 => ?_, exb r he⟩
  obtain ⟨a, xs, rfl, hS, hf⟩ := hf
  cases r1
  obtain ⟨ws, h1, _⟩ := st1.sto _ _ hS
  have g1 := r.grow st1 gr1
  refine ⟨.inl ⟨rfl, ws, .of h1⟩, g, S1, H01, _, Ed, g1.rel, hf, fun d S2 hf2 v2 H2 H02 st2 gr2 r2 => ?_, exb g1 he⟩
  obtain ⟨a', xs', e', hS', hz, hf2⟩ := hf2
  cases e'
  obtain ⟨ws', h2, rr⟩ := st2.sto _ _ hS'
  have g2 := g1.grow st2 gr2
  obtain ⟨st3, gr3⟩ := st2.upS (m' := .lst (xs' ++ [d])) hS' (noCode_lst h2) (o := .lst (ws' ++ [v2])) ⟨_, upd_same, rr.append (.cons r2 .nil)⟩
  exact ⟨_, ws', v2, rfl, rfl, h2, by rw [rr.length]; exact hz, hq _ _ hf2 σ _ H02 (g2.grow st3 gr3) (fun a o q => gr3.sub a o (gr2.sub a o (gr1.sub a o q)))⟩
/-- o.pop() -/
def popM (d : D) : T D := lstOf d fun a xs => dOpt xs[xs.length - 1]? fun y => fun S Q _ => Q y (S.up a (.lst xs.dropLast))
theorem x_popM {apos cpos : Pos} (ho : XE X E o mo) (hbase : attributeBase o "pop" X.env (eval o X.env) = eval o X.env := by rfl) (hline : (apos.endLine == cpos.line) = true := by rfl) : XE X E (.Call (.Attribute o "pop" apos) [] [] cpos) (fun g => T.bind (mo g) popM) := by
  refine pe_w (pe_bm0 PySem.F.plainAttrs_list PySem.F.slot_list_pop PySem.F.type_list_pop mt_pop ho hbase hline) fun σ H Q ⟨g, S, H0, Qd, Ed, rel, hm, hq, he⟩ => ?_
  refine ⟨g, S, H0, _, Ed, rel, hm, fun x S1 hf v H1 H01 st1 gr1 r1 => ?_, he⟩
  obtain ⟨a, xs, rfl, hS, hf⟩ := hf
  cases r1
  obtain ⟨ws, h1, rr⟩ := st1.sto _ _ hS
  obtain ⟨y, hy, hf⟩ := dOpt_inv hf
  obtain ⟨u, hu, ru⟩ := rr.get hy
  have rd : Rps X.K H01 ws.dropLast xs.dropLast := by
    rw [List.dropLast_eq_take, List.dropLast_eq_take, rr.length]
    exact rr.take _
  obtain ⟨st3, gr3⟩ := st1.upS (m' := .lst xs.dropLast) hS (noCode_lst h1) (o := .lst ws.dropLast) ⟨_, upd_same, rd⟩
  exact ⟨.inl ⟨rfl, ws, .of h1⟩, _, ws, u, rfl, rfl, h1, by rw [rr.length]; exact hu, hq _ _ hf _ _ H01 st3 (gr1.trans st1 gr3) ru⟩
/-- o == [] -/
def nilM (d : D) : T D := lstOf d fun _ xs => T.bind (dNeed (okD (.lst xs) = true)) fun _ => T.pure (.bl (eqD (.lst xs) (.lst [])))
theorem lst_dp {K : PySem.W.Frag} {H0 H : Hp} (e : Sub H0 H) {a : Addr} {ws : List V} {xs : List D} {q : PyData} (h : H a = some (.lst ws)) (r : Rps K H0 ws xs) (hp : toP (.lst xs) = some q) : Dp K H (.ref a) q := by
  rw [toP] at hp
  cases z : toPs xs with
  | none => rw [z] at hp; cases hp
  | some ps => rw [z] at hp; cases hp; exact .lst (.of h) (Rps.dps e r z)
theorem nilM_lf {σ : L2.St} {H : Hp} {Q : VK} (h : lf X.K E (RF X.K) (fun g => T.bind (mo g) nilM) σ H Q) : tOp (rEqD X.K) (lf X.K E (RF X.K) mo) (tLst tNil) σ H Q := by
  obtain ⟨g, S, H0, Qd, Ed, rel, hm, hq, he⟩ := h
  refine ⟨g, S, H0, _, Ed, rel, hm, fun x S1 hf v H1 H01 st1 gr1 r1 => ?_, he⟩
  obtain ⟨a, xs, rfl, hS, ho, hf⟩ := hf
  cases r1
  refine ⟨Nat.zero_le _, fun q hq' => ?_⟩
  obtain ⟨st2, gr2, n0, nS⟩ := alloc_n st1 hq' (.lst [])
  obtain ⟨ws, h1, rr⟩ := st2.sto _ _ hS
  obtain ⟨p, h2, s1⟩ := okD_some ho
  refine ⟨p, .list [], lst_dp st2.sub h1 rr h2, .lst (.of upd_same) .nil, s1, rfl, ?_⟩
  rw [← eqD_of h2 (show toP (.lst []) = some (.list []) by rw [toP, toPs]; rfl)]
  exact hq _ S1 hf _ _ H01 st2 (gr1.trans st1 gr2) (.bl _)
theorem t_nilM {k : Nat} {p2 : Pos} (hr : Room k X.A) (ho : XE X E o mo) : XT X E (.Compare o [.Eq] [.List [] p2] pos) (fun g => T.bind (T.bind (mo g) nilM) dAsB) :=
  pt_w (pt_cmpR (op_eqD (hu64 hr)) ho (pe_lst pa_nil) (nomark _)) fun σ H Q h => nilM_lf (lt_lf h)
end
/-! ### o != p by an own __eq__ -/
def neB (c : Str) (K : PySem.W.Frag) : Bool := He.eqO (PySem.W.findIn K (.ref (He.ga K c)) "__ne__") (some (some (.builtin "object.__ne__"))) && decide (PySem.W.mroIn K (He.ga K c) (.type "object") = some true)
section
variable {X : Cx} {k j : Nat} {E : XK} {c : Str} {g : Addr} {sp : Sp} {F : List D → T D} {a b : Expr} {pos : Pos} {ma mb : ME}
theorem ne_call {P : Program} {w : World} {A : Around} {E : Value → Shared → Prop} {s : Shared} {K : PySem.W.Frag} {x C f : Addr} {ox : Obj} {od : Option Obj} {u : Value} {Q : Value → Shared → Prop} (hu : A.units + 1 < cLine) (KX : K.In s.heap) (J : PySem.W.InstAt s.heap x ox C od)
    (he : PySem.W.findIn K (.ref C) "__eq__" = some (some (.ref f))) (hf : PySem.W.isFn K (.ref f) = true) (hn : PySem.W.findIn K (.ref C) "__ne__" = some (some (.builtin "object.__ne__"))) (hm : PySem.W.mroIn K C (.type "object") = some true)
    (h : wpAny (model P w) A.in1 (call (.ref f) [.ref x, u]) (fun v s' => ∃ b, v = .bool b ∧ Q (.bool (!b)) s') E s) : wpAny (model P w) A (callSpecialIfBound? (.ref x) "__ne__" [u]) (fun r s' => ∃ b, r = some (.bool b) ∧ Q (.bool b) s') E s := by
  have sp : PySem.W.Looks (model P w) s.heap (specialOf (.ref x) "__ne__") (some (.builtin "object.__ne__")) := J.type.andThen (PySem.W.looks_findIn KX hn)
  have iv : PySem.W.Looks (model P w) s.heap (isInstance (.ref x) (.type "object")) true := J.type.andThen (PySem.W.looks_mroIn KX hm)
  refine NtL.csib sp (PySem.F.cmp_object.ne.bind _) ?_
  refine wpAny_call (codeAny_call_builtin PySem.F.cmp_object.ne.plain PySem.F.cmpEntry_ne (PySem.W.check_slot (i := "object.__ne__") (owner := "object") (n := "__ne__") (by decide +kernel) (by decide +kernel) iv (PySem.F.cmpArgs_ne _ _) ?_))
  unfold Builtin.«object.__ne__»
  show wpAny _ _ (cRoomFor "comparison" [Value.ref x, u] >>= fun _ => _) _ _ _
  refine wpAny_bind (wpAny_cRoomFor (by show A.units + 1 < cLine; exact hu) ?_)
  refine wpAny_bind (PySem.W.ifBound_K KX J he hf (wpAny_mono h (fun v s' hv => ?_) fun _ _ y => y))
  obtain ⟨b, rfl, hq⟩ := hv
  refine wpAny_bind (wpAny_truthy_bool ?_)
  exact wpAny_pure ⟨_, rfl, hq⟩
end
end DL

set_option Elab.async false
set_option linter.all false
set_option maxRecDepth 100000
set_option maxHeartbeats 4000000
namespace DL
open PySem PySem.Spec PyProof.Rows L2 STx OrdS
section
variable {X : Cx} {k j : Nat} {E : XK} {c : Str} {g : Addr} {sp : Sp} {F : List D → T D} {a b : Expr} {pos : Pos} {ma mb : ME}
theorem op_ne_own (M : OpM X.K c "__eq__" g) (hN : neB c X.K = true) (O : FnR X.prog X.w X.K X.mg X.base (L2.CX X.prog X.w) k g sp) (hr : Room (k + 1) X.A) (hx : Passes (L2.CX X.prog X.w) X E) :
    OpR X (compareOp .NotEq) (fun x y H Q => (∃ t, RightOf X.K c H y t) ∧ sOwn2 X.K c sp E x y H fun z H' => ∃ b, z = .bl b ∧ Q (.bl (!b)) H') := by
  obtain ⟨n1, n2⟩ := He.ba hN
  intro pins s σ H x y v u Q I rx ry h
  obtain ⟨⟨t, ht⟩, a, dx, vs, rfl, ha, h⟩ := h
  cases rx
  obtain ⟨ox, od, J⟩ := inst_at I ha
  obtain ⟨L, hn⟩ := right_look I ry ht
  have KX := I.kIn
  have hu1 : X.A.units + 1 < cLine := by have := hr.un; omega
  have one : wpAny (model X.prog X.w) X.A (tryCompare (.ref a) "__ne__" u) (fun r s' => ∃ v, r = some v ∧ EP X pins σ Q v s') X.xe s := by
    unfold tryCompare
    refine wpAny_bind (wpAny_mono (ne_call (Q := EP X pins σ Q) hu1 KX J M.at_ M.fn (He.eqO_ok n1) (of_decide_eq_true n2) (wpAny_mono (run_own1 (vs := [.ref a, y]) O hr hx I (.cons rfl (.cons ry .nil)) h) (fun z s' hz => ?_) fun _ _ y => y)) (fun r s' hr => ?_) fun _ _ y => y)
    · obtain ⟨zv, H', I', rz, b, rfl, hz⟩ := hz
      have rz : z = .bool b := rz
      exact ⟨b, rz, .bl (!b), H', I', rfl, hz⟩
    · obtain ⟨b, rfl, hq⟩ := hr
      exact wpAny_pure ⟨_, rfl, hq⟩
  show wpAny _ _ (richCompare .NotEq (.ref a) u) _ _ s
  unfold richCompare
  simp only [oneThing_ref]
  refine wpAny_holding (wpAny_bind (wpAny_cRoomFor hr.units0 ?_))
  refine wpAny_bind (J.type.here (wpAny_bind (L.here ?_)))
  split
  · rename_i q
    have e : PySem.W.subIn X.K t (.ref (He.ga X.K c)) = some false := by
      rcases Bool.or_eq_true_iff.mp hn with e | e
      · rw [beq_iff_eq.mp e] at q; simp at q
      · exact beq_iff_eq.mp e
    refine wpAny_bind ((PySem.W.looks_subIn KX e).here ?_)
    simp only [Bool.false_eq_true, if_false]
    refine wpAny_bind (wpAny_mono one (fun r s' z => ?_) fun _ _ e => e)
    obtain ⟨v, rfl, hq⟩ := z
    exact wpAny_pure hq
  · refine wpAny_bind (wpAny_pure ?_)
    simp only [Bool.false_eq_true, if_false]
    refine wpAny_bind (wpAny_mono one (fun r s' z => ?_) fun _ _ e => e)
    obtain ⟨v, rfl, hq⟩ := z
    exact wpAny_pure hq
theorem x_neI (M : OpM X.K c "__eq__" g) (hN : neB c X.K = true) (hB : rightB c X.K = true) (O : OkM X.prog X.w X.K X.mg X.base j g F) (hr : Room k X.A) (hj : j + 1 ≤ k) (hx : Passes (L2.CX X.prog X.w) X E) (ha : XE X E a ma) (hb : XE X E b mb) (hmk : behindInMarks .NotEq b = false := by rfl) :
    XE X E (.Compare a [.NotEq] [b] pos) (fun g => T.bind (ma g) fun x => T.bind (mb g) fun y => T.bind (rightD c y) fun _ => T.bind (callI c F x [y]) (blD true)) :=
  pe_w (pe_cmpR (op_ne_own M hN O.fn (hr.mono hj) hx) ha hb hmk) fun σ H Q h => two_lf h fun v w d e H2 H02 S2 Qd Ed st rv rw_ hf hq he => ⟨right_of st hB rw_ hf.1, own_sp st rv (.cons rw_ .nil) hf.2 (fun z S3 hz u H3 H03 st3 gr3 r3 => by
    unfold blD at hz
    split at hz
    · cases r3
      exact ⟨_, rfl, hq _ S3 hz _ H3 H03 st3 gr3 (.bl _)⟩
    · exact hz.elim) he⟩
theorem t_neI (M : OpM X.K c "__eq__" g) (hN : neB c X.K = true) (hB : rightB c X.K = true) (O : OkM X.prog X.w X.K X.mg X.base j g F) (hr : Room k X.A) (hj : j + 1 ≤ k) (hx : Passes (L2.CX X.prog X.w) X E) (ha : XE X E a ma) (hb : XE X E b mb) (hmk : behindInMarks .NotEq b = false := by rfl) :
    XT X E (.Compare a [.NotEq] [b] pos) (fun g => T.bind (T.bind (ma g) fun x => T.bind (mb g) fun y => T.bind (rightD c y) fun _ => T.bind (callI c F x [y]) (blD true)) dAsB) :=
  pt_w (pt_cmpR (op_ne_own M hN O.fn (hr.mono hj) hx) ha hb hmk) fun σ H Q h => two_lf (lt_lf h) fun v w d e H2 H02 S2 Qd Ed st rv rw_ hf hq he => ⟨right_of st hB rw_ hf.1, own_sp st rv (.cons rw_ .nil) hf.2 (fun z S3 hz u H3 H03 st3 gr3 r3 => by
    unfold blD at hz
    split at hz
    · cases r3
      exact ⟨_, rfl, hq _ S3 hz _ H3 H03 st3 gr3 (.bl _)⟩
    · exact hz.elim) he⟩
end
/-! ### a statement that is never reached; x is True -/
section
variable {X : Cx} {E : XK} {b : Bs} {st : Stmt} {x y : Expr} {pos : Pos} {ma mb : ME}
theorem s_never : XS X E b st (fun _ => T.fail) := ⟨fun pins s σ H D I ⟨g, S, H0, Qd, Ed, r, hm, _⟩ => hm.elim⟩
def dIsTr (neg : Bool) : D → D → T D
  | .bl a, .bl b => T.pure (.bl (if neg then !decide (a = b) else decide (a = b)))
  | _, _ => T.fail
theorem s_isTr {K : PySem.W.Frag} : OpS K (RF K) (fun x y H Q => ∃ a b, x = .bl a ∧ y = .bl b ∧ Q (.bl (decide (a = b))) H) (dIsTr false) := by
  intro v w a b H H0 S Qd Ed Q st ra rb hf hq
  unfold dIsTr at hf
  split at hf
  · cases ra.bl; cases rb.bl
    exact ⟨_, _, rfl, rfl, hq _ S hf _ H H0 st (Grow.refl _ _ _) (.bl _)⟩
  · exact hf.elim
theorem s_notTr {K : PySem.W.Frag} : OpS K (RF K) (fun x y H Q => ∃ a b, x = .bl a ∧ y = .bl b ∧ Q (.bl (!decide (a = b))) H) (dIsTr true) := by
  intro v w a b H H0 S Qd Ed Q st ra rb hf hq
  unfold dIsTr at hf
  split at hf
  · cases ra.bl; cases rb.bl
    exact ⟨_, _, rfl, rfl, hq _ S hf _ H H0 st (Grow.refl _ _ _) (.bl _)⟩
  · exact hf.elim
theorem x_isTr (ha : XB X E x ma) (hb : XB X E y mb) : XE X E (.Compare x [.Is] [y] pos) (mb2 (dIsTr false) ma mb) := x_cmp op_is_bl s_isTr ha hb (nomark _)
theorem x_notTr (ha : XB X E x ma) (hb : XB X E y mb) : XE X E (.Compare x [.IsNot] [y] pos) (mb2 (dIsTr true) ma mb) := x_cmp op_isnot_bl s_notTr ha hb (nomark _)
theorem t_isTr (ha : XB X E x ma) (hb : XB X E y mb) : XT X E (.Compare x [.Is] [y] pos) (fun g => T.bind (mb2 (dIsTr false) ma mb g) dAsB) := t_cmp op_is_bl s_isTr ha hb (nomark _)
theorem t_notTr (ha : XB X E x ma) (hb : XB X E y mb) : XT X E (.Compare x [.IsNot] [y] pos) (fun g => T.bind (mb2 (dIsTr true) ma mb g) dAsB) := t_cmp op_isnot_bl s_notTr ha hb (nomark _)
end
end DL

set_option Elab.async false
set_option linter.all false
set_option maxRecDepth 100000
set_option maxHeartbeats 4000000
namespace DL
open PySem PySem.Spec PyProof.Rows L2 STx OrdS
/-! ### list(a text) -/
section
variable {prog : Program} {w : World} {A : Around} {E : Value → Shared → Prop} {s : Shared}
theorem hint_str {x : Str} {t : Tok} {Q : Bool → Shared → Prop} (hQ : Q false s) : wpAny (model prog w) A (Builtin.List.listLengthHint (.str x t)) Q E s := by
  unfold Builtin.List.listLengthHint
  refine wpAny_bind (wpAny_specialOf (typeIs_str s x t) PySem.F.slot_str_len.lookup ?_)
  generalize hid : ("str.__len__" : String) = id0
  wp_delta
  rw [show splitId id0 = some ("str", "__len__") from by subst hid; decide +kernel]
  subst hid
  refine wpAny_bind (wpAny_isInstance (T := "str") (b := true) (typeIs_str s x t) (by rw [isSubtype_type]; kernel_rfl) ?_)
  refine wpAny_ite_split (fun hab => absurd hab (by decide)) (fun _ => ?_)
  refine wpAny_ite_split (fun hab => ?_) (fun hab => absurd (by decide +kernel) hab)
  refine wpAny_bind (wpAny_typeOf (typeIs_str s x t) ?_)
  exact wpAny_pure hQ
theorem extend_str {R : Result → Shared → Prop} {x : Str} {t : Tok} (hh : A.handled = none) (hlen : x.cps.size ≤ sizeLine) (S : Addr) (res : Value) (c₀ : Nat) (hS : s.heap.get? S = some { cls := .type "list", data := .seq #[] c₀ })
    (hR : ∀ h' tk acc' c', (∀ b o, b ≠ S → s.heap.get? b = some o → h'.get? b = some o) → h'.get? S = some { cls := .type "list", dict := none, data := .seq acc' c', slots := #[] } →
      ItemsOf (SignAt x) acc' x.cps.size → R (.ok (.ret res)) { s with heap := h', toks := tk }) :
    wpAny (model prog w) A.in1 (Builtin.List.listExtendWith (.ref S) (.str x t) res)
      (fun fin s' => match fin with | .done f => R (.ok f) s' | .again c' => c'.quiet = true ∧ codeAny (model prog w) A c' R s') (fun e s' => R (.error e) s') s := by
  have hSlt : S < s.heap.objs.size := Heap.lt_size hS
  have hSI : S ≠ s.heap.objs.size := Nat.ne_of_lt hSlt
  have hSf : S ∉ [s.heap.objs.size] := fun hm => hSI (List.mem_singleton.mp hm)
  have key : ∀ (ty : String) (W : Walks prog w A.in1 s.heap.objs.size [s.heap.objs.size] [s.heap.objs.size] x.cps.size (SignAt x) (fun i h => h.IsStrIter s.heap.objs.size ty x t i)) (h : Heap) (tk : Nat), h.IsStrIter s.heap.objs.size ty x t 0 → (∀ b o, b ≠ S → s.heap.get? b = some o → h.get? b = some o) →
      h.get? S = some { cls := .type "list", data := .seq #[] c₀ } → codeAny (model prog w) A (.builtin "list.extend.loop" ⟨[.ref S, .ref s.heap.objs.size, res], []⟩) R { s with heap := h, toks := tk } := by
    intro ty W h tk hit hk hS₁
    refine codeAny_extend_loopS W.toS hlen S hSf res x.cps.size 0 _ #[] c₀ rfl (Nat.zero_le _) hit hS₁ (ItemsOf.nil _) fun s' acc' c' hm hS' hacc => ?_
    rw [Moved.eq_with hm]
    refine hR s'.heap s'.toks acc' c' (fun b o hb e => hm.heap b o (fun hmem => ?_) (hk b o hb e)) hS' hacc
    rcases List.mem_cons.mp hmem with e' | hmem
    · exact hb e'
    · exact absurd (Heap.lt_size e) (by rw [List.mem_singleton.mp hmem]; exact Nat.lt_irrefl _)
  unfold Builtin.List.listExtendWith
  refine wpAny_bind (wpAny_typeOf (T := "str") (typeIs_str s x t) ?_)
  have h1 : Builtin.List.listSameRef (.ref S) (.str x t) = false := by simp [Builtin.List.listSameRef]
  have h2 : (Value.type "str" == Value.type "list") = false := by decide
  have h3 : (Value.type "str" == Value.type "tuple") = false := by decide
  simp only [h1, h2, h3, Bool.or_false, Bool.false_eq_true, if_false]
  refine wpAny_bind (wpAny_pyIter_strU ?_)
  refine wpAny_bind (wpAny_holding (hint_str ?_))
  have hit : ∀ ty, strIterType x = ty → (s.heap.push { cls := .type (strIterType x), data := .fields #[.str x t, .int 0 0] }).IsStrIter s.heap.objs.size ty x t 0 := fun ty e => by
    refine ⟨_, Heap.get?_push_size _ rfl, by rw [e], rfl⟩
  have hS₁ := Heap.get?_push_of_some { cls := .type (strIterType x), data := .fields #[.str x t, .int 0 0] } hS
  refine wpAny_ite_split (fun hab => absurd hab (by decide)) (fun _ => wpAny_pure ⟨plainId_quiet PySem.F.plain_extend_loop _, ?_⟩)
  by_cases ha : x.cps.all (· < 128) = true
  · have e : strIterType x = "str_ascii_iterator" := by unfold strIterType; rw [if_pos ha]
    exact key _ (Walks.strAscii (A := A.in1) hh _ x t) _ s.toks (hit _ e) (fun b o _ e => Heap.get?_push_of_some _ e) hS₁
  · have e : strIterType x = "str_iterator" := by unfold strIterType; rw [if_neg ha]
    exact key _ (Walks.strWide (A := A.in1) hh _ x t) _ s.toks (hit _ e) (fun b o _ e => Heap.get?_push_of_some _ e) hS₁
theorem list_init_str {R : Result → Shared → Prop} {x : Str} {t : Tok} (hh : A.handled = none) (hlen : x.cps.size ≤ sizeLine) (S : Addr) (hS : s.heap.get? S = some { cls := .type "list", data := .seq #[] })
    (hR : ∀ h' tk acc' c', (∀ b o, b ≠ S → s.heap.get? b = some o → h'.get? b = some o) → h'.get? S = some { cls := .type "list", dict := none, data := .seq acc' c', slots := #[] } →
      ItemsOf (SignAt x) acc' x.cps.size → R (.ok (.ret .none)) { s with heap := h', toks := tk }) :
    wpAny (model prog w) A.in1 (Builtin.«list.__init__» ⟨[.ref S, .str x t], []⟩)
      (fun fin s' => match fin with | .done f => R (.ok f) s' | .again c' => c'.quiet = true ∧ codeAny (model prog w) A c' R s') (fun e s' => R (.error e) s') s := by
  show wpAny _ _ (do let old ← Builtin.List.listItems (.ref S); Builtin.List.listUpdate (.ref S) (fun _ => #[]); letGo old.toList.reverse; Builtin.List.listExtendWith (.ref S) (.str x t) .none) _ _ s
  refine wpAny_bind ?_
  unfold Builtin.List.listItems
  refine wpAny_bind (wpAny_seqItems hS rfl (wpAny_pure ?_))
  show wpAny _ _ (updateSeq S (fun _ => #[]) >>= fun _ => letGo (#[] : Array Value).toList.reverse >>= fun _ => Builtin.List.listExtendWith (.ref S) (.str x t) .none) _ _ s
  refine wpAny_bind (wpAny_updateSeq hS rfl ?_)
  have hS₂ := Heap.get?_update_self (Obj.mapSeq (fun _ => (#[] : Array Value))) hS rfl
  have oth : ∀ b o, b ≠ S → s.heap.get? b = some o → (s.heap.update S (Obj.mapSeq (fun _ => (#[] : Array Value)))).get? b = some o :=
    fun b o hb e => (Heap.get?_update_other _ _ (Ne.symm hb)).trans e
  refine wpAny_bind (wpAny_letGo ?_)
  refine extend_str hh hlen S .none _ hS₂ fun h' tk acc' c' hk hS' hacc => ?_
  exact hR h' tk acc' c' (fun b o hb e => hk b o hb (oth b o hb e)) hS' hacc
theorem call_list_str {Q : Value → Shared → Prop} {x : Str} {t : Tok} (hh : A.handled = none) (hlen : x.cps.size ≤ sizeLine)
    (hQ : ∀ h' tk acc' c', (∀ b o, s.heap.get? b = some o → h'.get? b = some o) →
      h'.get? s.heap.objs.size = some { cls := .type "list", dict := none, data := .seq acc' c', slots := #[] } → ItemsOf (SignAt x) acc' x.cps.size → Q (.ref s.heap.objs.size) { s with heap := h', toks := tk }) :
    wpAny (model prog w) A (call (.type "list") [.str x t]) Q E s := by
  refine callType_codes (Q₁ := fun obj s₁ => obj = .ref s.heap.objs.size ∧ s₁ = { s with heap := s.heap.push { cls := .type "list", data := .seq #[] } }) PySem.F.called_list (PySem.F.typeCall_list_1 _) PySem.F.entry_list_init
    (code_list_new _ ⟨rfl, rfl⟩) fun obj s₁ h₁ => ?_
  obtain ⟨rfl, rfl⟩ := h₁
  have hS : (s.heap.push { cls := .type "list", data := .seq #[] }).get? s.heap.objs.size = some { cls := .type "list", data := .seq #[] } := Heap.get?_push_size _ rfl
  refine ⟨⟨_, hS, rfl⟩, PySem.F.args_list_init_2 _ _, list_init_str (A := A.in1) hh hlen _ hS fun h' tk acc' c' hk hS' hacc => ?_⟩
  exact ⟨rfl, hQ h' tk acc' c' (fun b o e => hk b o (Nat.ne_of_lt (Heap.lt_size e)) (Heap.get?_push_of_some _ e)) hS' hacc⟩
end
def charsV (x : Str) : List V := x.cps.toList.map fun c => V.str ⟨#[c]⟩
def rListS : List V → Hp → VK → Prop := fun xs H Q => ∃ x, xs = [.str x] ∧ x.cps.size ≤ sizeLine ∧ ∀ q, H q = none → Q (.ref q) (upd H q (.lst (charsV x)))
theorem cr_listS {X : Cx} (hc : X.calm = true) : CallR X (.type "list") rListS := by
  intro pins s σ H xs us Q I r h
  obtain ⟨x, rfl, hz, q⟩ := h
  obtain ⟨u, rfl, rx⟩ := vals1 r
  obtain ⟨t, rfl⟩ := rx
  refine call_list_str (I.ok.hd hc) hz fun h' tk acc' c' hkeep hS hacc => ?_
  have hl : (charsV x).length = x.cps.size := by unfold charsV; rw [List.length_map, Array.length_toList]
  refine ⟨.ref s.heap.objs.size, upd H s.heap.objs.size (.lst (charsV x)), I.laid hkeep (Nat.le_refl _) (show ObjOk X.prog X.w _ _ _ (.lst (charsV x)) from ⟨by rw [hl]; exact hz, acc'.toList, c', ?_, by rw [Array.toArray_toList]; exact hS⟩), rfl, q _ (I.hok.fresh (Nat.le_refl _))⟩
  have el : acc'.toList.length = acc'.size := by simp
  refine vals_of_at (by rw [hl, el, hacc.1]) fun j y w h1 h2 => ?_
  obtain ⟨c, u, e1, rfl⟩ := hacc.2 j w (by rw [← Array.getElem?_toList]; exact h2)
  have e2 : (charsV x)[j]? = some (.str ⟨#[c]⟩) := by
    unfold charsV
    rw [List.getElem?_map, Array.getElem?_toList, e1]; rfl
  rw [e2] at h1
  cases h1
  exact ⟨u, rfl⟩
def dListS : List D → T D
  | [.str x] => T.bind (dNeed (x.cps.size ≤ sizeLine)) fun _ => T.pure (.lst (chars x))
  | _ => T.fail
theorem rps_chars {K : PySem.W.Frag} {H0 : Hp} (x : Str) : Rps K H0 (charsV x) (chars x) := by
  unfold charsV chars
  generalize x.cps.toList = l
  induction l with
  | nil => exact .nil
  | cons c r ih => exact .cons (.str _) ih
theorem s_listS {K : PySem.W.Frag} : CallS K (RN K) rListS dListS := by
  intro vs ds H H0 S Qd Ed Q st rs hf hq
  unfold dListS at hf
  split at hf
  · obtain ⟨v, rfl, rv⟩ := rs.one
    cases rv.str
    obtain ⟨hz, hf⟩ := hf
    refine ⟨_, rfl, hz, fun l hl => ?_⟩
    obtain ⟨st2, gr2, n0, nS⟩ := alloc_n st hl (.lst (charsV _))
    exact hq _ S hf _ _ _ st2 gr2 (.inl ⟨l, _, _, rfl, rfl, hl, upd_same, n0, nS, rps_chars _⟩)
  · exact hf.elim
end DL

set_option Elab.async false
set_option linter.all false
set_option maxRecDepth 100000
set_option maxHeartbeats 4000000
namespace DL
open PySem PySem.Spec PyProof.Rows L2 STx OrdS
section
variable {X : Cx} {j k : Nat} {E : XK} {c : Str} {g : Addr} {F : List D → T D} {a b : Expr} {pos p : Pos} {ma mb : ME}
theorem x_ninI (M : OpM X.K c "__contains__" g) (O : OkM X.prog X.w X.K X.mg X.base j g F) (hr : Room k X.A) (hj : j ≤ k) (hx : Passes (L2.CX X.prog X.w) X E) (ha : XE X E a ma) (hb : XE X E b mb) (hmk : behindInMarks .NotIn b = false := by rfl) :
    XE X E (.Compare a [.NotIn] [b] pos) (fun g => T.bind (ma g) fun x => T.bind (mb g) fun y => T.bind (callI c F y [x]) (blD true)) :=
  pe_w (pe_cmpR (op_nin_own M O.fn (hr.mono hj) hx) ha hb hmk) fun σ H Q h => two_lf h fun v w d e H2 H02 S2 Qd Ed st rv rw_ hf hq he => own_sp st rw_ (.cons rv .nil) hf (fun z S3 hz u H3 H03 st3 gr3 r3 => by
    unfold blD at hz
    split at hz
    · cases r3
      exact ⟨_, rfl, hq _ S3 hz _ H3 H03 st3 gr3 (.bl _)⟩
    · exact hz.elim) he
theorem t_ninI (M : OpM X.K c "__contains__" g) (O : OkM X.prog X.w X.K X.mg X.base j g F) (hr : Room k X.A) (hj : j ≤ k) (hx : Passes (L2.CX X.prog X.w) X E) (ha : XE X E a ma) (hb : XE X E b mb) (hmk : behindInMarks .NotIn b = false := by rfl) :
    XT X E (.Compare a [.NotIn] [b] pos) (fun g => T.bind (T.bind (ma g) fun x => T.bind (mb g) fun y => T.bind (callI c F y [x]) (blD true)) dAsB) :=
  pt_w (pt_cmpR (op_nin_own M O.fn (hr.mono hj) hx) ha hb hmk) fun σ H Q h => two_lf (lt_lf h) fun v w d e H2 H02 S2 Qd Ed st rv rw_ hf hq he => own_sp st rw_ (.cons rv .nil) hf (fun z S3 hz u H3 H03 st3 gr3 r3 => by
    unfold blD at hz
    split at hz
    · cases r3
      exact ⟨_, rfl, hq _ S3 hz _ H3 H03 st3 gr3 (.bl _)⟩
    · exact hz.elim) he
end
end DL


set_option Elab.async false
set_option linter.all false
set_option maxRecDepth 100000
set_option maxHeartbeats 4000000
/-! a lambda with one parameter: its context, its call; code objects with tables of their own -/
namespace Lam4
open PySem PySem.Spec PyProof.Rows L2 LamX
/-- one parameter p, captured names, globals -/
structure LamP (sc scope : Scope) (p : Str) : Prop where
  kind : scope.kind = .function
  co : scope.isCoroutine = false
  gen : scope.isGenerator = false
  par : scope.names.lookup p = some .local
  own : ∀ y ∈ scope.names, (y.2 = .local → y.1 = p) ∧ y.2 ≠ .cell
  free : ∀ y ∈ scope.names, y.2 = .free → sc.names.lookup y.1 = some .cell ∨ sc.names.lookup y.1 = some .free
def lamPB (sc scope : Scope) (p : Str) : Bool :=
  decide (scope.kind = .function) && !scope.isCoroutine && !scope.isGenerator && decide (scope.names.lookup p = some .local) && scope.names.all fun y => (!decide (y.2 = .local) || decide (y.1 = p)) && !decide (y.2 = .cell) && (!decide (y.2 = .free) || decide (sc.names.lookup y.1 = some .cell) || decide (sc.names.lookup y.1 = some .free))
theorem lamP_by {sc scope : Scope} {p : Str} (h : lamPB sc scope p = true) : LamP sc scope p := by
  unfold lamPB at h
  simp only [Bool.and_eq_true, Bool.or_eq_true, Bool.not_eq_true', decide_eq_true_eq, decide_eq_false_iff_not, List.all_eq_true] at h
  obtain ⟨⟨⟨⟨h1, h2⟩, h3⟩, h5⟩, h4⟩ := h
  refine ⟨h1, h2, h3, h5, fun y hy => ⟨fun e => ?_, (h4 y hy).1.2⟩, fun y hy e => ?_⟩
  · rcases (h4 y hy).1.1 with z | z
    · exact absurd e z
    · exact z
  · rcases (h4 y hy).2 with (z | z) | z
    · exact absurd e z
    · exact .inl z
    · exact .inr z
theorem LamP.has {X : Cx} {scope : Scope} {p : Str} (L : LamP X.env.scope scope p) (ok : X.Ok) : ∀ y ∈ scope.names, y.2 = .free → ∃ c, X.env.cells.lookup y.1 = some c := fun y hy e => by
  rcases L.free y hy e with k | k
  · exact ok.has _ (.inl k)
  · exact ok.has _ (.inr k)
/-- the context of the lambda's body; its parameter stands last -/
def lamCxP (X : Cx) (A : Around) (outer : List Env) (s : Shared) (H : Hp) (E : XK) (scope : Scope) (f c' : Addr) (p : Str) : Cx := { lamCx X A outer s H E scope f c' with N := X.N ++ [p] }
section
variable {X : Cx} {pins : List (Addr × Obj)} {σ : L2.St} {H HZ : Hp} {s s1 : Shared}
theorem lam_startP {A : Around} {outer : List Env} {E : XK} {scope : Scope} {f c' : Addr} {h₁ : Heap} {tk : Nat} {p : Str} {v : V} {u : Value} (I : Inv X pins σ H s) (L : LamP X.env.scope scope p) (hp : p ∉ X.N) (e0 : Env0 X.prog X.w X.K X.mg X.base A outer s1 HZ) (hd : A.handled = none)
    (un : Un (frs X.stack) [] H HZ s.heap s1.heap) (hns : h₁.Ns s1.heap.objs.size fun y => ([(p, u)] : List (Str × Value)).reverse.lookup y) (rv : RelV v u) (kp : ∀ b o, s1.heap.get? b = some o → h₁.get? b = some o) :
    Inv (lamCxP X A outer s1 HZ E scope f c' p) [] (σ ++ [some v]) HZ { s1 with heap := h₁, toks := tk } := by
  have hfree := L.has I.ok
  have cm : ∀ {y c}, (cloFrom X.env.cells scope.names []).lookup y = some c → X.env.cells.lookup y = some c := fun {y c} e => by
    rcases cloFrom_mem (PySem.mem_of_lookup e) with hm | ⟨h1, h2⟩
    · cases hm
    · obtain ⟨c1, hc⟩ := hfree _ h1 rfl
      have hc : X.env.cells.lookup y = some c1 := hc
      have e2 : c = c1 := by
        rw [h2, hc] <;> rfl
      rw [e2]
      exact hc
  have look : ∀ {y}, scope.names.lookup y = some .free → ∃ c, (cloFrom X.env.cells scope.names []).lookup y = some c := fun {y} hl => by
    have hy : (y, NameKind.free) ∈ scope.names := PySem.mem_of_lookup hl
    exact mem_lookup (cloFrom_has (cells := X.env.cells) (acc := []) hy)
  have cellK : ∀ {c : Addr} {v : Option Value}, H c = none → s.heap.IsCell c v → h₁.IsCell c v := fun {c v} n ⟨o, ho, hd⟩ => by
    obtain ⟨sl, q⟩ := un.any ho n (by simp)
    exact ⟨_, kp _ _ q, hd⟩
  have noA : ∀ b : Addr, b ∉ (lamCxP X A outer s1 HZ E scope f c' p).ex := fun b z => absurd (show b ∈ ([] : List Addr) from z) (by simp)
  have Ok : (lamCxP X A outer s1 HZ E scope f c' p).Ok := by
    refine ⟨e0.mod, L.kind, rfl, rfl, Nat.le_refl _, fun y z c e1 e2 => I.ok.inj y z c (cm e1) (cm e2), fun y hy => ?_, fun y c z _ => ?_, fun _ => hd, Around.frames_deeper e0.frames, .inr ⟨rfl, rfl⟩, fun b z => absurd z (noA b), e0.bs, e0.bsz, fun b _ _ => noA b,
      fun b z => absurd z (noA b), e0.funs, e0.frf⟩
    · have hy : scope.names.lookup y = some .cell ∨ scope.names.lookup y = some .free := hy
      rcases hy with hy | hy
      · exact absurd rfl (L.own _ (PySem.mem_of_lookup hy)).2
      · exact look hy
    · have z : false = true := z
      cases z
  refine ⟨Ok, rfl, e0.bare, Un.kept kp, ⟨_, hns, fun i y v' e1 e2 e3 => ?_⟩, fun y c e => ?_, e0.hok.fresh (Nat.le_refl _), fun y c e => ?_, fun q hq => absurd (show q ∈ ([] : List (Addr × Obj)) ++ [] from hq) (by simp), e0.hok.kept kp, by show (σ ++ [some v]).length = (X.N ++ [p]).length; rw [List.length_append, List.length_append, I.len]; rfl⟩
  · have e1 : (X.N ++ [p])[i]? = some y := e1
    by_cases hi : i < X.N.length
    · rw [List.getElem?_append_left hi] at e1
      rw [List.getElem?_append_left (by rw [I.len]; exact hi)] at e2
      have hy : y ≠ p := fun z => hp (by rw [← z]; exact List.mem_of_getElem? e1)
      have e3 : Vis scope y := e3
      rcases e3 with k | k | k
      · exact absurd ((L.own _ (PySem.mem_of_lookup k)).1 rfl) hy
      · exact absurd rfl (L.own _ (PySem.mem_of_lookup k)).2
      · obtain ⟨m, hn, hl⟩ := I.loc
        have hvis : Vis X.env.scope y := (L.free _ (PySem.mem_of_lookup k) rfl).elim (fun k => .inr (.inl k)) (fun k => .inr (.inr k))
        obtain ⟨w', r, q⟩ := hl i y v' e1 e2 hvis
        obtain ⟨c2, h2⟩ := look k
        refine ⟨w', r, .inr ⟨.inr k, c2, h2, ?_⟩⟩
        have c1 := cm h2
        rcases q with ⟨k', _⟩ | ⟨_, c3, e', z⟩
        · have k' : X.env.scope.names.lookup y = some .local := k'
          rcases L.free _ (PySem.mem_of_lookup k) rfl with k2 | k2 <;> rw [show X.env.scope.names.lookup y = _ from k2] at k' <;> cases k'
        · rw [c1] at e'
          cases e'
          exact cellK (I.freeC y _ c1) z
    · have hi2 : i = X.N.length := by
        have := (List.getElem?_eq_some_iff.mp e1).1
        rw [List.length_append, List.length_singleton] at this
        omega
      subst hi2
      rw [List.getElem?_append_right (Nat.le_refl _), Nat.sub_self] at e1
      rw [List.getElem?_append_right (by rw [I.len]; exact Nat.le_refl _), I.len, Nat.sub_self] at e2
      obtain rfl : p = y := Option.some.inj e1
      obtain rfl : v = v' := Option.some.inj (Option.some.inj e2)
      refine ⟨u, rv, .inl ⟨L.par, ?_⟩⟩
      show ([(p, u)] : List (Str × Value)).reverse.lookup p = some u
      simp [List.lookup]
  · obtain ⟨w', z⟩ := I.cell y c (cm e)
    exact ⟨w', cellK (I.freeC y c (cm e)) z⟩
  · obtain ⟨v, o, ho, hd⟩ := I.cell y c (cm e)
    exact un.free c o ho (I.freeC y c (cm e)) (by simp)
/-- a code object of the name q, whatever else is told of it -/
def CodeIs (o : HO) (c : Addr) (q : Str) : Prop := ∃ φ : Heap → Prop, o = .ext φ ∧ ∀ h, φ h → ∃ (oc : Obj) (vs : Array Value) (t : Tok), h.get? c = some oc ∧ oc.data = .fields vs ∧ vs[1]? = some (.str q t)
theorem codeIs_O {c : Addr} {q : Str} : CodeIs (CodeO c q) c q := ⟨_, rfl, fun _ h => h⟩
/-- a(e), in the def that got the lambda: Z is that def's context, entered at s -/
theorem pe_actP {CXg : CXT} {Eg : XK} {Ng : List Str} {qg : Str} {sg : Scope} {g f c' : Addr} {cdg pm ctv : Value} {params : Arguments} {body : Expr} {scope : Scope} {k i : Nat} {a p : Str} {pn : List (Addr × Obj)} {xe : Value → Shared → Prop} {W : WX} {tb : XK → TE} {e : Expr} {te : TE} {p1 p2 : Pos}
    (I : Inv X pins σ H s) (L : LamP X.env.scope scope p) (hp : p ∉ X.N) (hf : s.heap.get? f = some (PySem.W.kla_obj "<lambda>" (X.env.qual ++ "<lambda>") params body scope (cloFrom X.env.cells scope.names []) pm c' ctv)) (hfn : H f = none) (hfr : f ∉ frs X.stack)
    (hbind : ∀ u : Value, bindArgs (PySem.W.kla_fn "<lambda>" (X.env.qual ++ "<lambda>") params body scope (cloFrom X.env.cells scope.names []) pm (.ref c') ctv) ⟨[u], []⟩ = pure [(p, u)])
    (tk : Takes ((cxOf CXg X.prog X.w X.K X.mg X.base Ng qg sg g cdg X.A X.stack s H Eg).tr pn xe) W) (hr : Room (k + 1) (X.A.deeper (envOfC qg sg s.heap.objs.size g cdg)))
    (hbody : ∀ (A : Around) (outer : List Env) (s : Shared) (H : Hp) (E : XK), Room k (A.deeper (lamEnv X scope s.heap.objs.size f c')) → PE (lamCxP X A outer s H E scope f c' p) body (tb E))
    (hN : Ng[i]? = some a) (hv : Vis sg a) (he : PE ((cxOf CXg X.prog X.w X.K X.mg X.base Ng qg sg g cdg X.A X.stack s H Eg).tr pn xe) e te)
    (hst : starEach [e] (envOfC qg sg s.heap.objs.size g cdg) = (false, eval e (envOfC qg sg s.heap.objs.size g cdg)) :: starEach [] (envOfC qg sg s.heap.objs.size g cdg) := by rfl)
    (hd : (a == ("__debug__" : Str)) = false := by decide) (hcd : (a == ("__classdict__" : Str)) = false := by decide) :
    PE ((cxOf CXg X.prog X.w X.K X.mg X.base Ng qg sg g cdg X.A X.stack s H Eg).tr pn xe) (.Call (.Name a p1) [e] [] p2)
      (fun σZ HZ Q => σZ[i]? = some (some (.ref f)) ∧ te σZ HZ fun v H1 => (∃ o, H1 c' = some o ∧ CodeIs o c' (X.env.qual ++ "<lambda>")) ∧ ∃ E : XK, (∀ cls d H', E cls d H' → W cls d σZ H') ∧ tb E (σ ++ [some v]) H1 Q) := by
  refine ⟨fun pinsZ sZ σZ HZ Q IZ h => ?_⟩
  obtain ⟨hs, ht⟩ := h
  refine wpAny_Call_Name_kw (thn ((pe_var (pos := p1) (i := i) hN hv hd hcd).run pinsZ sZ σZ HZ (fun v H1 => v = .ref f ∧ H1 = HZ) IZ ⟨.ref f, hs, rfl, rfl⟩) fun u s1 ⟨v, H1, I1, r1, q1⟩ => ?_)
  obtain ⟨ev, eH⟩ := q1
  subst ev
  rw [eH] at I1
  obtain rfl : u = Value.ref f := r1
  have of1 : s1.heap.get? f = some (PySem.W.kla_obj "<lambda>" (X.env.qual ++ "<lambda>") params body scope (cloFrom X.env.cells scope.names []) pm c' ctv) := I1.base.keep f _ hf hfn hfr (fun z => nomatch (show f ∈ ([] : List Addr) from z))
  refine PySem.W.callWith_F ⟨_, _, _, _, of1⟩ ?_ hst rfl
  show wpAny _ _ (spliced (backTo p2 (starEach [e] (envOfC qg sg s.heap.objs.size g cdg)))) _ _ s1
  rw [hst]
  show wpAny _ _ (spliced ((false, eval e (envOfC qg sg s.heap.objs.size g cdg)) :: backTo p2 (starEach [] (envOfC qg sg s.heap.objs.size g cdg)))) _ _ s1
  refine Calls.spliced_cons (thn (he.run pinsZ s1 σZ HZ _ I1 ht) fun u s2 ⟨v, H2, I2, rv, hc, E, hW, htb⟩ => ?_)
  have of2 : s2.heap.get? f = some (PySem.W.kla_obj "<lambda>" (X.env.qual ++ "<lambda>") params body scope (cloFrom X.env.cells scope.names []) pm c' ctv) := I2.base.keep f _ hf hfn hfr (fun z => nomatch (show f ∈ ([] : List Addr) from z))
  refine Calls.spliced_nil ⟨⟨_, _, _, _, of2⟩, ?_⟩
  have un : Un (frs X.stack) [] H H2 s.heap s2.heap := I2.base
  obtain ⟨o, ho, φ, rfl, hφ⟩ := hc
  obtain ⟨oc, vs, t, hoc, hdc, hvc⟩ := hφ _ (I2.hok c' _ ho).1
  have rc : codeAny (model X.prog X.w) (X.A.deeper (envOfC qg sg s.heap.objs.size g cdg)) (.call (.ref f) ⟨[u], []⟩) (CR (L2.CX X.prog X.w) (envOfC qg sg s.heap.objs.size g cdg :: X.stack) X.prog X.w H2 s2 Q E) s2 := by
    refine PySem.W.kla_callFunE hr.depth of2 rfl L.co L.gen rfl ⟨c', oc, vs, t, rfl, hoc, hdc, hvc⟩ ?_
    rw [hbind]
    refine wpAny_pure (wpAny_newFunctionEnv (fun y hy => (L.own y hy).2) (fun y hy => ?_) (fun h₁ hns hsb => ⟨I2.nolimit.fresh _ hsb, ?_⟩) L.kind)
    · rw [List.mem_singleton] at hy
      subst hy
      exact L.par
    show codeAny _ _ (.expr body (lamEnv X scope s2.heap.objs.size f c')) _ _
    have kp : ∀ b o, s2.heap.get? b = some o → h₁.get? b = some o := fun b o e => hsb.extBut b o (Nat.ne_of_lt (Heap.lt_size e)) (Heap.get?_push_of_some _ e)
    have J : Inv (lamCxP X (X.A.deeper (envOfC qg sg s.heap.objs.size g cdg)) (envOfC qg sg s.heap.objs.size g cdg :: X.stack) s2 H2 E scope f c' p) [] (σ ++ [some v]) H2 { s2 with heap := h₁, toks := s2.toks + ([(p, u)] : List (Str × Value)).length } :=
      lam_startP I L hp I2.env0 hr.hd un hns rv kp
    refine PySem.W.kla_codeExpr (wpAny_mono ((hbody _ _ s2 H2 E (hr.deeper _)).run [] _ _ H2 Q J htb) (fun v s' hq => ?_) fun e s' hq => hq)
    obtain ⟨w', H', J', rv, q⟩ := hq
    exact ⟨w', H', J'.os, J'.bare, J'.base, J'.hok, rv, q⟩
  refine wpAny_call (codeAny_mono rc fun r s' hq => ?_)
  cases r with
  | error e => exact tk e s' (XE.of_call I2 (fun cls d H' h => hW cls d H' h) hq)
  | ok fl =>
    cases fl with
    | ret u => exact I2.after hq
    | next => exact False.elim hq
    | brk => exact False.elim hq
    | cont => exact False.elim hq
end
/-! ### a lambda without parameters, its code object told by any word -/
section
variable {X : Cx} {pins : List (Addr × Obj)} {σ : L2.St} {H HZ : Hp} {s s1 : Shared}
theorem pe_act0 {CXg : CXT} {Eg : XK} {Ng : List Str} {qg : Str} {sg : Scope} {g f c' : Addr} {cdg pm ctv : Value} {params : Arguments} {body : Expr} {scope : Scope} {k i : Nat} {a : Str} {pn : List (Addr × Obj)} {xe : Value → Shared → Prop} {W : WX} {tb : XK → TE} {p1 p2 : Pos}
    (I : Inv X pins σ H s) (L : LamS X.env.scope scope) (hf : s.heap.get? f = some (PySem.W.kla_obj "<lambda>" (X.env.qual ++ "<lambda>") params body scope (cloFrom X.env.cells scope.names []) pm c' ctv)) (hfn : H f = none) (hfr : f ∉ frs X.stack)
    (hbind : bindArgs (PySem.W.kla_fn "<lambda>" (X.env.qual ++ "<lambda>") params body scope (cloFrom X.env.cells scope.names []) pm (.ref c') ctv) ⟨[], []⟩ = pure [])
    (tk : Takes ((cxOf CXg X.prog X.w X.K X.mg X.base Ng qg sg g cdg X.A X.stack s H Eg).tr pn xe) W) (hr : Room (k + 1) (X.A.deeper (envOfC qg sg s.heap.objs.size g cdg)))
    (hbody : ∀ (A : Around) (outer : List Env) (s : Shared) (H : Hp) (E : XK), Room k (A.deeper (lamEnv X scope s.heap.objs.size f c')) → PE (lamCx X A outer s H E scope f c') body (tb E))
    (hN : Ng[i]? = some a) (hv : Vis sg a) (hd : (a == ("__debug__" : Str)) = false) (hcd : (a == ("__classdict__" : Str)) = false) :
    PE ((cxOf CXg X.prog X.w X.K X.mg X.base Ng qg sg g cdg X.A X.stack s H Eg).tr pn xe) (.Call (.Name a p1) [] [] p2)
      (fun σZ HZ Q => σZ[i]? = some (some (.ref f)) ∧ (∃ o, HZ c' = some o ∧ CodeIs o c' (X.env.qual ++ "<lambda>")) ∧ ∃ E : XK, (∀ cls d H', E cls d H' → W cls d σZ H') ∧ tb E σ HZ Q) := by
  refine ⟨fun pinsZ sZ σZ HZ Q IZ ⟨hs, hc, E, hW, htb⟩ => ?_⟩
  refine wpAny_Call_Name_kw (thn ((pe_var (pos := p1) (i := i) hN hv hd hcd).run pinsZ sZ σZ HZ (fun v H1 => v = .ref f ∧ H1 = HZ) IZ ⟨.ref f, hs, rfl, rfl⟩) fun u s1 ⟨v, H1, I1, r1, q1⟩ => ?_)
  obtain ⟨ev, eH⟩ := q1
  subst ev
  rw [eH] at I1
  obtain rfl : u = Value.ref f := r1
  have of1 := I1.base.keep f _ hf hfn hfr (fun z => nomatch (show f ∈ ([] : List Addr) from z))
  refine PySem.W.callWith_F0 ⟨_, _, _, _, of1⟩ ?_
  have un : Un (frs X.stack) [] H HZ s.heap s1.heap := I1.base
  obtain ⟨o, ho, φ, rfl, hφ⟩ := hc
  obtain ⟨oc, vs, t, hoc, hdc, hvc⟩ := hφ _ (I1.hok c' _ ho).1
  have rc : codeAny (model X.prog X.w) (X.A.deeper (envOfC qg sg s.heap.objs.size g cdg)) (.call (.ref f) ⟨[], []⟩) (CR (L2.CX X.prog X.w) (envOfC qg sg s.heap.objs.size g cdg :: X.stack) X.prog X.w HZ s1 Q E) s1 := by
    refine PySem.W.kla_callFunE hr.depth of1 rfl L.co L.gen rfl ⟨c', oc, vs, t, rfl, hoc, hdc, hvc⟩ ?_
    rw [hbind]
    refine wpAny_pure (wpAny_newFunctionEnv (fun y hy => (L.own y hy).2) (fun y hy => absurd hy (by simp)) (fun h₁ hns hsb => ⟨I1.nolimit.fresh _ hsb, ?_⟩) L.kind)
    show codeAny _ _ (.expr body (lamEnv X scope s1.heap.objs.size f c')) _ _
    have kp : ∀ b o, s1.heap.get? b = some o → h₁.get? b = some o := fun b o e => hsb.extBut b o (Nat.ne_of_lt (Heap.lt_size e)) (Heap.get?_push_of_some _ e)
    have J : Inv (lamCx X (X.A.deeper (envOfC qg sg s.heap.objs.size g cdg)) (envOfC qg sg s.heap.objs.size g cdg :: X.stack) s1 HZ E scope f c') [] σ HZ { s1 with heap := h₁, toks := s1.toks + ([] : List (Str × Value)).length } :=
      lam_start2 I L I1.env0 hr.hd un hns kp
    refine PySem.W.kla_codeExpr (wpAny_mono ((hbody _ _ s1 HZ E (hr.deeper _)).run [] _ _ HZ Q J htb) (fun v s' hq => ?_) fun e s' hq => hq)
    obtain ⟨w', H', J', rv, q⟩ := hq
    exact ⟨w', H', J'.os, J'.bare, J'.base, J'.hok, rv, q⟩
  refine wpAny_call (codeAny_mono rc fun r s' hq => ?_)
  cases r with
  | error e => exact tk e s' (XE.of_call I1 (fun cls d H' h => hW cls d H' h) hq)
  | ok fl =>
    cases fl with
    | ret u => exact I1.after hq
    | next => exact False.elim hq
    | brk => exact False.elim hq
    | cont => exact False.elim hq
end
/-! ### try: suite / finally: suite -/
section
variable {X : Cx} {f₀ : Stmt} {fs bs : List Stmt} {pos : Pos} {tb : WX → TS} {tf tfs : TS} {Wout : WX}
theorem ps_tryFin (hs : X.stack = X.env :: X.outer) (hf : X.env.frame = some X.env.locals) (hex : X.ex = []) (tk : Takes X Wout)
    (hb : ∀ (W : WX) (pn : List (Addr × Obj)) (xe : Value → Shared → Prop), Takes (X.tr pn xe) W → PassesOwn (model X.prog X.w) X.A X.env xe → PSs (X.tr pn xe) bs (tb W))
    (hfin : PSs X.nox (f₀ :: fs) tf) (hsu : ∀ (a : Addr) (pn : List (Addr × Obj)), PSs (X.suite a pn) (f₀ :: fs) tfs) :
    PS X (.Try bs [] [] (f₀ :: fs) pos) (fun D σ H => tb (wFin tfs Wout) { nx := fun σ2 H2 => tf D σ2 H2, rt := fun _ _ => False } σ H) := by
  refine ⟨fun pins s σ H D I h => ?_⟩
  have ok := I.ok
  refine wpAny_Try_finally ?_
  refine wpAny_mono ((hb (wFin tfs Wout) (X.pn ++ pins) (fun x s₁ => wpAny (model X.prog X.w) X.A (noteFrame x X.env) (fun _ s₂ => FinallyRaised X.prog X.w X.A X.xe X.env (f₀ :: fs) (SP X pins D) x s₂) (FinallyRaised X.prog X.w X.A X.xe X.env (f₀ :: fs) (SP X pins D)) s₁)
    (fun u s' xx => ?_) PassesOwn.looking).run [] s σ H _ (I.toTry _) h) (fun g s1 z => ?_) (fun x s1 hx => hx)
  · exact fin_exc hs hf hex ok tk hsu xx
  · cases g with
    | ret u =>
      obtain ⟨_, _, _, _, _, q⟩ := z
      exact False.elim q
    | brk =>
      obtain ⟨_, _, _, q⟩ := z
      exact False.elim q
    | cont =>
      obtain ⟨_, _, _, q⟩ := z
      exact False.elim q
    | next =>
      obtain ⟨σ2, H2, I2, q⟩ := z
      refine wpAny_execs_nil ?_
      have I3 : Inv X pins σ2 H2 s1 := I2.ofTry ok
      refine wpAny_mono (hfin.run pins s1 σ2 H2 D (I3.wish _) q) (fun g s2 q => ?_) fun _ _ z => False.elim z
      have q' : SP X pins D g s2 := q.unwish
      cases g with
      | next => exact q'
      | ret w2 => exact q'
      | brk => exact q'
      | cont => exact q'
end
/-! ### one entry of the abstract heap, written over or anew -/
section
variable {X : Cx} {pins : List (Addr × Obj)} {σ : L2.St} {H : Hp} {s : Shared}
theorem inv_put {a : Addr} {o : HO} (I : Inv X pins σ H s) (h1 : ∀ b ob, X.s_0.heap.get? b = some ob → X.H_0 b = none → b ∉ X.ex → b ≠ a) (h2 : ∀ b, X.H_0 b ≠ none → (∃ xs, X.H_0 b = some (.tup xs)) ∨ (∃ ob u, X.H_0 b = some (.frz ob u)) ∨ (∃ ps, X.H_0 b = some (.tbl ps)) → b ≠ a)
    (h5 : X.env.locals ≠ a) (h6 : ∀ x c, X.env.cells.lookup x = some c → c ≠ a) (h7 : ∀ p ∈ X.pn ++ pins, p.1 ≠ a) (hn : ∀ b, H a ≠ some (.own b)) (hn2 : ∀ xs, H a ≠ some (.tup xs)) (ho : ObjOk X.prog X.w (upd H a o) s.heap a o) : Inv X pins σ (upd H a o) s where
  ok := I.ok
  os := I.os
  bare := I.bare
  base := ⟨I.base.keep, I.base.slot, fun b ob e n hx => by rw [upd_ne (h1 b ob e n hx)]; exact I.base.free b ob e n hx, I.base.there,
    fun b xs e => by rw [upd_ne (h2 b (by rw [e]; exact fun z => nomatch z) (.inl ⟨xs, e⟩))]; exact I.base.tups b xs e,
    fun b ob u e => by rw [upd_ne (h2 b (by rw [e]; exact fun z => nomatch z) (.inr (.inl ⟨ob, u, e⟩)))]; exact I.base.frzs b ob u e,
    fun b ps e => by rw [upd_ne (h2 b (by rw [e]; exact fun z => nomatch z) (.inr (.inr ⟨ps, e⟩)))]; exact I.base.tbls b ps e⟩
  loc := I.loc
  cell := I.cell
  free := by rw [upd_ne h5]; exact I.free
  freeC := fun x c e => by rw [upd_ne (h6 x c e)]; exact I.freeC x c e
  pin := fun p hp => by
    obtain ⟨k1, k2, k3⟩ := I.pin p hp
    exact ⟨k1, by rw [upd_ne (h7 p hp)]; exact k2, k3⟩
  hok := fun b u e => by
    by_cases hb : b = a
    · subst hb
      rw [upd_same] at e
      cases e
      exact ho
    · rw [upd_ne hb] at e
      refine (I.hok b u e).stay (fun d v _ q => q) (fun d q => ?_) fun d xs q => ?_
      · have hd : d ≠ a := fun z => hn b (by rw [← z]; exact q)
        rw [upd_ne hd]; exact q
      · have hd : d ≠ a := fun z => hn2 xs (by rw [← z]; exact q)
        rw [upd_ne hd]; exact q
  len := I.len
/-- what stands at a new address is tracked -/
theorem inv_new {s0 : Shared} {H0 : Hp} {a : Addr} {o : HO} (I0 : Inv X pins σ H0 s0) (I : Inv X pins σ H s) (ha : s0.heap.objs.size ≤ a) (hn : H a = none) (ho : ObjOk X.prog X.w (upd H a o) s.heap a o) : Inv X pins σ (upd H a o) s := by
  have lt : ∀ b ob, s0.heap.get? b = some ob → b ≠ a := fun b ob e z => by
    have := Heap.lt_size e
    rw [z] at this
    exact Nat.lt_irrefl _ (Nat.lt_of_lt_of_le this ha)
  refine inv_put I (fun b ob e n _ => ?_) (fun b _ h => ?_) (fun z => ?_) (fun x c e => ?_) (fun p hp => (lt p.1 p.2 (I0.pin p hp).1)) (fun b => by rw [hn]; exact fun z => nomatch z) (fun xs => by rw [hn]; exact fun z => nomatch z) ho
  · have hs := Heap.lt_size e
    exact fun z => by
      rw [z] at hs
      exact Nat.lt_irrefl _ (Nat.lt_of_lt_of_le hs (Nat.le_trans I0.sz ha))
  · intro z
    rcases h with ⟨xs, e⟩ | ⟨ob, u, e⟩ | ⟨ps, e⟩
    · have := I.base.tups b xs e
      rw [z, hn] at this; cases this
    · have := I.base.frzs b ob u e
      rw [z, hn] at this; cases this
    · obtain ⟨m, this⟩ := I.base.tbls b ps e
      rw [z, hn] at this; cases this
  · have := I0.lt
    rw [z] at this
    exact Nat.lt_irrefl _ (Nat.lt_of_lt_of_le this ha)
  · obtain ⟨v, ob, e', _⟩ := I0.cell x c e
    exact lt c ob e'
/-- another word on a tracked object -/
theorem inv_ext {a : Addr} {φ : Heap → Prop} {o : HO} (I : Inv X pins σ H s) (he : H a = some (.ext φ)) (ho : ObjOk X.prog X.w (upd H a o) s.heap a o) : Inv X pins σ (upd H a o) s := by
  refine inv_put I (fun b ob e n hx z => ?_) (fun b _ h z => ?_) (fun z => ?_) (fun x c e z => ?_) (fun p hp z => ?_) (fun b => by rw [he]; exact fun z => nomatch z) (fun xs => by rw [he]; exact fun z => nomatch z) ho
  · have := I.base.free b ob e n hx
    rw [z, he] at this; cases this
  · rcases h with ⟨xs, e⟩ | ⟨ob, u, e⟩ | ⟨ps, e⟩
    · have := I.base.tups b xs e
      rw [z, he] at this; cases this
    · have := I.base.frzs b ob u e
      rw [z, he] at this; cases this
    · obtain ⟨m, this⟩ := I.base.tbls b ps e
      rw [z, he] at this; cases this
  · have := I.free
    rw [z, he] at this; cases this
  · have := I.freeC x c e
    rw [z, he] at this; cases this
  · have := (I.pin p hp).2.1
    rw [z, he] at this; cases this
end
/-! ### code objects with tables of their own -/
def CodeT (c : Addr) (q : Str) (P' : Addr) : HO := .ext fun h => (∃ (oc : Obj) (vs : Array Value) (t : Tok), h.get? c = some oc ∧ oc.data = .fields vs ∧ vs[1]? = some (.str q t)) ∧ PySem.W.CodeHd h c P'
theorem codeIs_T {c : Addr} {q : Str} {P' : Addr} : CodeIs (CodeT c q P') c q := ⟨_, rfl, fun _ h => h.1⟩
theorem codeT_ok {P : Program} {w : World} {H : Hp} {h : Heap} {c : Addr} {q : Str} {P' : Addr} (h1 : ∃ (oc : Obj) (vs : Array Value) (t : Tok), h.get? c = some oc ∧ oc.data = .fields vs ∧ vs[1]? = some (.str q t)) (h2 : PySem.W.CodeHd h c P') : ObjOk P w H h c (CodeT c q P') := by
  refine ⟨⟨h1, h2⟩, ?_, fun g1 g2 ⟨k1, k2⟩ st => ⟨?_, ?_⟩⟩
  · obtain ⟨oc, vs, t, e, _⟩ := h1
    exact ⟨oc, e⟩
  · obtain ⟨oc, vs, t, e, r⟩ := k1
    exact ⟨oc, vs, t, st _ e, r⟩
  · obtain ⟨o, vs, file, tf, flags, tg, inF, text, tt, e, r⟩ := k2
    exact ⟨o, vs, file, tf, flags, tg, inF, text, tt, st _ e, r⟩
/-- the table at P: each code object that it tells bears the name q, and its own table is one of L -/
def TabT (H : Hp) (P : Addr) (q : Str) (L : List Addr) : Prop := ∃ ps : Array Value, H P = some (.tbl ps) ∧ TriplesOk ps.toList ∧ ∀ (pos : Pos) (cv : Value), codeAmong pos ps.toList = some cv → ∃ c P', cv = .ref c ∧ P' ∈ L ∧ H c = some (CodeT c q P')
theorem blt_at {h : Heap} {mg : Str → Option Value} {P P' : Addr} {ps : Array Value} (b : h.BuiltinsAt mg P) (hP : h.get? P' = some (PySem.W.tabObj ps)) : h.BuiltinsAt mg P' := by
  obtain ⟨bm, o, k1, k2, k3, k4, k5, k6, k7, k8⟩ := b
  refine ⟨bm, o, k1, k2, k3, fun z => ?_, k5, k6, k7, k8⟩
  rw [z, hP] at k5
  cases k5
  cases k8
theorem glob_ne {h : Heap} {mg : Str → Option Value} {P' : Addr} {ps : Array Value} (g : h.Ns mainGlobals mg) (hP : h.get? P' = some (PySem.W.tabObj ps)) : mainGlobals ≠ P' := fun z => by
  obtain ⟨o, es, ep, e, hd, _⟩ := g
  rw [z, hP] at e
  cases e
  cases hd
section
variable {M : Model} {A : Around} {E : Value → Shared → Prop} {s : Shared} {name qual : Str} {params : Arguments} {body : Expr} {scope : Scope} {env : Env} {c P : Addr} {ps : Array Value} {pos : Pos} {firstLine : Nat} {mg : Str → Option Value}
  {clos : List (Str × Addr)} {Q : Value → Shared → Prop}
/-- a function anew, its code object's own table told -/
theorem mkFun (hcl : closureFor scope env = pure clos) (hge0 : env.globals = mainGlobals) (hg : s.heap.Ns mainGlobals mg) (hcode : env.code = .ref c) (C : PySem.W.CodeHd s.heap c P) (hP : s.heap.get? P = some (PySem.W.tabObj ps)) (ht : TriplesOk ps.toList)
    (hnf : codeAmong pos ps.toList = none) (hgP : mainGlobals ≠ P) (hb : s.heap.BuiltinsAt mg P)
    (h : ∀ c' P' ctv h' tk, Heap.ExtBut P s.heap h' → s.heap.objs.size ≤ c' → c' < h'.objs.size → h'.CodeRec (.ref c') qual → h'.get? P = some (PySem.W.tabObj (ps ++ #[rawInt pos.line, rawInt pos.col, .ref c'])) → s.heap.objs.size ≤ P' → PySem.W.CodeHd h' c' P' → h'.get? P' = some (PySem.W.tabObj #[]) →
      Q (.ref h'.objs.size) { s with heap := h'.push (PySem.W.kla_obj name qual params body scope clos ((mg "__name__").getD .none) c' ctv), toks := tk }) :
    wpAny M A (makeFunction name qual params (.expr body) scope env [] [] [] pos firstLine) Q E s := by
  obtain ⟨bm, ob, kbm, kn0, _, knP, kbo, kcl, kdi, kda⟩ := hb
  rw [makeFunction_eq]
  simp only [pure_bind, if_true, List.isEmpty_nil, List.filterMap_nil, List.zip_nil_right]
  unfold makeTail
  rw [hcl, hge0]
  refine wpAny_bind (wpAny_pure ?_)
  cases clos with
  | nil =>
    simp only [if_true, List.isEmpty_nil]
    refine wpAny_bind (wpAny_pure (wpAny_bind ?_))
    refine wpAny_functionCodeX hcode (C.code hP ht) (C.tab hP) hnf fun c' h' tk hx hge hlt _ hrec htb ⟨P', g1, g2, g3⟩ => ?_
    have hg2 := hg.extBut hx hgP
    refine wpAny_bind (wpAny_builtinsFor hg2 kbm kn0 (hx _ _ knP kbo) kcl kdi kda (wpAny_bind (wpAny_nsGet hg2 (wpAny_bind (wpAny_pure ?_)))))
    exact wpAny_newObj_type (h c' P' .none h' tk hx hge hlt hrec htb.2 g1 (PySem.W.CodeHd.of g2 g3) g3.2) (by size_fits)
  | cons q r =>
    simp only [if_false, Bool.false_eq_true, List.isEmpty_cons]
    refine wpAny_bind (wpAny_newTextTuple (wpAny_bind ?_))
    have Ck : ∀ o : Obj, PySem.W.CodeHd (s.heap.push o) c P := fun o => C.keeps fun b o' e => Heap.get?_push_of_some _ e
    have sz : ∀ o : Obj, s.heap.objs.size ≤ (s.heap.push o).objs.size := fun o => by rw [Heap.size_push]; exact Nat.le_succ _
    refine wpAny_functionCodeX hcode ((Ck _).code (Heap.get?_push_of_some _ hP) ht) ((Ck _).tab (Heap.get?_push_of_some _ hP)) hnf fun c' h' tk hx hge hlt _ hrec htb ⟨P', g1, g2, g3⟩ => ?_
    have hg2 := (hg.push _).extBut hx hgP
    have hx2 : Heap.ExtBut P s.heap h' := fun b o hb' e => hx b o hb' (Heap.get?_push_of_some _ e)
    refine wpAny_bind (wpAny_builtinsFor hg2 kbm kn0 (hx2 _ _ knP kbo) kcl kdi kda (wpAny_bind (wpAny_nsGet hg2 (wpAny_bind (wpAny_pure ?_)))))
    exact wpAny_newObj_type (h c' P' _ h' tk hx2 (Nat.le_trans (sz _) hge) hlt hrec htb.2 (Nat.le_trans (sz _) g1) (PySem.W.CodeHd.of g2 g3) g3.2) (by size_fits)
end
/-- nothing new, or a code object at c' with an empty table at P' of its own -/
def StepT (H H1 : Hp) (P : Addr) (q : Str) (L : List Addr) (c' P' : Addr) : Prop := (H1 = H ∧ P' ∈ L) ∨ ∃ ps ps', H P = some (.tbl ps) ∧ H c' = none ∧ H P' = none ∧ c' ≠ P' ∧ H1 = upd (upd (upd (upd H P (.tbl ps')) c' (CodeO c' q)) c' (CodeT c' q P')) P' (.tbl #[]) ∧ TabT H1 P q (P' :: L)
section
variable {X : Cx} {pins : List (Addr × Obj)} {σ : L2.St} {H : Hp} {s : Shared}
theorem tabT_more {P c' P' : Addr} {q : Str} {L : List Addr} {ps : Array Value} {pos : Pos} (hP : H P = some (.tbl ps)) (ht : TriplesOk ps.toList) (ha : ∀ (pos : Pos) (cv : Value), codeAmong pos ps.toList = some cv → ∃ c P', cv = .ref c ∧ P' ∈ L ∧ H c = some (CodeT c q P')) (nC : H c' = none) (nP : H P' = none) (ne : c' ≠ P') :
    TabT (upd (upd (upd (upd H P (.tbl (ps ++ #[rawInt pos.line, rawInt pos.col, .ref c']))) c' (CodeO c' q)) c' (CodeT c' q P')) P' (.tbl #[])) P q (P' :: L) := by
  have eL : (ps ++ #[rawInt pos.line, rawInt pos.col, Value.ref c']).toList = ps.toList ++ [rawInt pos.line, rawInt pos.col, .ref c'] := by simp
  refine ⟨_, by rw [upd_ne (ne_of_none hP nP), upd_ne (ne_of_none hP nC), upd_ne (ne_of_none hP nC), upd_same], ?_, fun p' cv hcv => ?_⟩
  · rw [eL]
    exact PySem.TriplesOk_snoc _ _ _ _ ht
  · rw [eL] at hcv
    rcases among_app _ ht hcv with z | z
    · obtain ⟨c0, P0, e1, e2, e3⟩ := ha p' cv z
      have n2 : c0 ≠ P := fun w => by
        rw [w, hP] at e3
        unfold CodeT at e3
        cases e3
      exact ⟨c0, P0, e1, List.mem_cons_of_mem _ e2, by rw [upd_ne (ne_of_none e3 nP), upd_ne (ne_of_none e3 nC), upd_ne (ne_of_none e3 nC), upd_ne n2]; exact e3⟩
    · exact ⟨c', P', z, List.mem_cons_self, by rw [upd_ne ne, upd_same]⟩
theorem makeT {c P : Addr} {q : Str} {L : List Addr} {params : Arguments} {body : Expr} {scope : Scope} {pos : Pos} {E : Value → Shared → Prop} {Q : Value → Shared → Prop} (I : L2.Inv X pins σ H s) (TB : ∃ c0 P0, TabB X.base X.mg c0 P0) (C : PySem.W.CodeHd s.heap c P) (hcode : X.env.code = .ref c) (hq : q = X.env.qual ++ "<lambda>")
    (hT : TabT H P q L) (hdef : defaultsOf params X.env = ([], [])) (hfree : ∀ y ∈ scope.names, y.2 = .free → ∃ c, X.env.cells.lookup y.1 = some c)
    (h : ∀ (f c' P' : Addr) (pm ctv : Value) (H1 : Hp) (s' : Shared), L2.Inv X pins σ H1 s' → StepT H H1 P q L c' P' →
      s'.heap.get? f = some (PySem.W.kla_obj "<lambda>" (X.env.qual ++ "<lambda>") params body scope (cloFrom X.env.cells scope.names []) pm c' ctv) → H1 f = none → f ∉ frs X.stack → H1 c' = some (CodeT c' q P') → Q (.ref f) s') :
    wpAny (model X.prog X.w) X.A (eval (.Lambda params body scope pos) X.env) Q E s := by
  subst hq
  obtain ⟨ps, hP, ht, ha⟩ := hT
  refine PySem.W.kla_eval hdef ?_
  have oP : s.heap.get? P = some { cls := .none, data := .fields ps } := I.hok P _ hP
  obtain ⟨c0, P0, TB⟩ := TB
  have bP : s.heap.BuiltinsAt X.mg P := blt_at (TB.bm.keeps I.bk) oP
  have gP : mainGlobals ≠ P := glob_ne (I.mod.glob.keeps I.bk) oP
  have away : ∀ f, s.heap.objs.size ≤ f → f ∉ frs X.stack := fun f hf z => by
    rcases List.mem_cons.mp (I.stkSub _ z) with e | e
    · have h1 := I.lt
      rw [← e] at h1
      exact Nat.lt_irrefl _ (Nat.lt_of_lt_of_le h1 hf)
    · exact I.nofs hf e
  cases hc : codeAmong pos ps.toList with
  | some cv =>
    obtain ⟨c', P', rfl, hL, hco⟩ := ha pos cv hc
    refine PySem.W.kla_makeFunctionHit (mg := X.mg) (c := c) (P := P) (ps := ps) (closure_ok hfree) I.ok.glob (I.mod.glob.keeps I.bk) hcode C oP ht hc bP fun ctv h' tk hx hsz => ?_
    exact h h'.objs.size c' P' _ ctv H _ (I.kept fun b o e => Heap.get?_push_of_some _ (hx b o e)) (.inl ⟨rfl, hL⟩) (Heap.get?_push_size _ rfl) (I.hok.fresh hsz) (away _ hsz) hco
  | none =>
    refine mkFun (mg := X.mg) (c := c) (P := P) (ps := ps) (closure_ok hfree) I.ok.glob (I.mod.glob.keeps I.bk) hcode C oP ht hc gP bP fun c' P' ctv h' tk hx hge hlt hrec htb hgP hcd hPn => ?_
    obtain ⟨c2, oc, vs, t, e2, hoc, hd, hv⟩ := hrec
    cases e2
    have hsz : s.heap.objs.size ≤ h'.objs.size := Nat.le_trans hge (Nat.le_of_lt hlt)
    have nC : H c' = none := I.hok.fresh hge
    have nP : H P' = none := I.hok.fresh hgP
    have ne : c' ≠ P' := by
      obtain ⟨_, _, _, _, _, _, _, _, _, _, _, _, _, _, _, _, _, _, k⟩ := hcd
      exact k
    have n1 : h'.objs.size ≠ c' := Nat.ne_of_gt hlt
    have n2 : h'.objs.size ≠ P := Nat.ne_of_gt (Nat.lt_of_lt_of_le (Heap.lt_size oP) hsz)
    have n3 : h'.objs.size ≠ P' := Nat.ne_of_gt (Heap.lt_size hPn)
    have I1 := inv_table (t' := tk) (more := #[rawInt pos.line, rawInt pos.col, .ref c']) (h' := h'.push (PySem.W.kla_obj "<lambda>" (X.env.qual ++ "<lambda>") params body scope (cloFrom X.env.cells scope.names []) ((X.mg "__name__").getD .none) c' ctv)) I hP
      (fun b o hb e => Heap.get?_push_of_some _ (hx b o hb e)) (Heap.get?_push_of_some _ htb) hge ⟨oc, vs, t, Heap.get?_push_of_some _ hoc, hd, hv⟩
    have I2 := inv_ext (o := CodeT c' (X.env.qual ++ "<lambda>") P') (a := c') I1 upd_same (codeT_ok ⟨oc, vs, t, Heap.get?_push_of_some _ hoc, hd, hv⟩ (hcd.keeps fun b o e => Heap.get?_push_of_some _ e))
    have m1 : upd (upd (upd H P (.tbl (ps ++ #[rawInt pos.line, rawInt pos.col, .ref c']))) c' (CodeO c' (X.env.qual ++ "<lambda>"))) c' (CodeT c' (X.env.qual ++ "<lambda>") P') P' = none := by
      rw [upd_ne ne.symm, upd_ne ne.symm, upd_ne (fun z => by rw [z, hP] at nP; cases nP)]; exact nP
    have I3 := inv_new (o := .tbl #[]) I I2 hgP m1 (Heap.get?_push_of_some _ hPn)
    refine h h'.objs.size c' P' _ ctv _ _ I3 (.inr ⟨ps, _, hP, nC, nP, ne, rfl, tabT_more hP ht ha nC nP ne⟩) (Heap.get?_push_size _ rfl) ?_ (away _ hsz) (by rw [upd_ne ne, upd_same])
    rw [upd_ne n3, upd_ne n1, upd_ne n1, upd_ne n2]
    exact I.hok.fresh hsz
end
end Lam4

set_option Elab.async false
set_option linter.all false
set_option maxRecDepth 100000
set_option maxHeartbeats 4000000
/-! lambdas whose code objects have tables of their own; a lambda with a parameter, handed to a method that tries it -/
namespace DL
open PySem PySem.Spec PyProof.Rows L2 STx OrdS
/-- the table of code objects at P; L: their own tables -/
def tabM (q : Str) (L : List Addr) : MR where
  rel := fun _ _ H a => Lam4.TabT H a q L
  there := fun ⟨ps, e, _⟩ => by rw [e]; exact fun z => nomatch z
  keep := fun ⟨ps, h1, h2, h3⟩ _ e ek => ⟨ps, e.trans h1, h2, fun pos cv hc => by
    obtain ⟨c, P', e1, e2, e3⟩ := h3 pos cv hc
    exact ⟨c, P', e1, e2, ek _ _ e3⟩⟩
  noE := fun ⟨ps, e, _⟩ φ z => by rw [e] at z; cases z
def inQ (q : Str) : Str := q ++ ".<locals>.<lambda>"
def tabUp (S : Sto) (P : Addr) (q : Str) (L : List Addr) (P' : Addr) : Sto := (S.up P (.own (tabM q (P' :: L)))).up P' (.own (tabM (inQ q) []))
/-- a lambda is made: P' its code object's table -/
def lamDT {α : Type} (P : Addr) (q : Str) (m : Addr → T α) : T α := fun S Q E => ∃ L, S P = some (.own (tabM q L)) ∧ (∀ P' ∈ L, m P' S Q E) ∧ ∀ P', S P' = none → m P' (tabUp S P q L P') Q E
theorem tabT_nil {H : Hp} {P : Addr} {q : Str} (h : H P = some (.tbl #[])) : Lam4.TabT H P q [] := ⟨#[], h, True.intro, fun pos cv hc => by
  have z : codeAmong pos [] = some cv := hc
  simp [codeAmong] at z⟩
theorem StR.lamT {K : PySem.W.Frag} {H H0 : Hp} {S : Sto} (st : StR K H H0 S) {P : Addr} {q : Str} {L : List Addr} (hT : S P = some (.own (tabM q L))) {H1 : Hp} {c' P' : Addr} (e : Lam4.StepT H H1 P q L c' P') :
    (P' ∈ L ∧ StR K H1 H0 S ∧ Grow H H0 S H1 H0 S) ∨ (S P' = none ∧ StR K H1 H0 (tabUp S P q L P') ∧ Grow H H0 S H1 H0 (tabUp S P q L P')) := by
  rcases e with ⟨rfl, hL⟩ | ⟨ps, ps', hP, nC, nP', ne, e, ht⟩
  · exact .inl ⟨hL, st, Grow.refl _ _ _⟩
  refine .inr ?_
  have sP : S P ≠ none := by rw [hT]; exact fun z => nomatch z
  have nP : H0 P = none := st.nos P sP
  have n0 : ∀ a, H a = none → H0 a = none := fun a h => by
    cases q : H0 a with
    | none => rfl
    | some o => rw [st.sub _ _ q] at h; cases h
  have sP' : S P' = none := by
    cases q : S P' with
    | none => rfl
    | some m => exact absurd nP' (st.sto P' m q).there
  have nPP : P ≠ P' := ne_of_none hP nP'
  have at_ : ∀ b, b ≠ P → b ≠ c' → b ≠ P' → H1 b = H b := fun b h1 h2 h3 => by rw [e, upd_ne h3, upd_ne h2, upd_ne h2, upd_ne h1]
  have kc : KeepC H H1 := fun c q h => by
    have h1 : c ≠ P := fun z => by rw [z, hP] at h; cases h
    rw [at_ c h1 (ne_of_none h nC) (ne_of_none h nP')]; exact h
  refine ⟨sP', ⟨fun a o h => ?_, fun a n => ?_, fun a m h => ?_⟩, ⟨fun a o h n => ?_, fun a h _ => h, fun _ _ h => h, fun a h => ?_, fun a h => ?_⟩⟩
  · rw [at_ a (ne_of_none h nP) (ne_of_none h (n0 _ nC)) (ne_of_none h (n0 _ nP'))]; exact st.sub a o h
  · by_cases h1 : a = P'
    · subst h1; exact n0 _ nP'
    · unfold tabUp Sto.up at n
      rw [if_neg h1] at n
      by_cases h2 : a = P
      · subst h2; exact nP
      · rw [if_neg h2] at n; exact st.nos a n
  · unfold tabUp Sto.up at h
    by_cases h1 : a = P'
    · subst h1
      rw [if_pos rfl] at h
      cases h
      exact tabT_nil (by rw [e, upd_same])
    · rw [if_neg h1] at h
      by_cases h2 : a = P
      · subst h2
        rw [if_pos rfl] at h
        cases h
        exact ht
      · rw [if_neg h2] at h
        have rm := st.sto a m h
        have hc : a ≠ c' := fun z => rm.there (by rw [z]; exact nC)
        exact rm.keep (fun _ _ q => q) (at_ a h2 hc h1) kc
  · have hb : a ≠ P := fun z => by rw [z] at n; exact sP n
    rw [at_ a hb (ne_of_none h nC) (ne_of_none h nP')]; exact h
  · unfold tabUp Sto.up
    split
    · exact fun z => nomatch z
    split
    · exact fun z => nomatch z
    · exact h
  · unfold tabUp Sto.up at h
    by_cases h1 : a = P'
    · subst h1; exact .inr nP'
    · rw [if_neg h1] at h
      by_cases h2 : a = P
      · subst h2; exact .inl sP
      · rw [if_neg h2] at h; exact .inl h
/-! ### try: found = action(self) .. / finally: .. -/
abbrev noE : Xn → Sto → Prop := fun _ _ => False
/-- the action's call: what is asked of it -/
def actT (K : PySem.W.Frag) (b : Bs) (f : Addr) (act : D → T D) (W : WX) : TE := fun σ H Q => ∃ g S H0 Qd Ed d, RelB K b σ H H0 S g ∧ g[0]? = some (.va d) ∧ g[1]? = some (.va (.ref f)) ∧ act d S Qd Ed ∧ (∀ r S', Qd r S' → ∀ v H' H0', StR K H' H0' S' → Grow H H0 S H' H0' S' → Rp K H0' v r → Q v H') ∧
  ∀ x S', Ed x S' → ∀ o H' H0', StR K H' H0' S' → Grow H H0 S H' H0' S' → RpX K H0' H' x o → W (.ref (He.ga K x.cls)) o σ H'
def tryAct (i : Nat) (f : Addr) (act : D → T D) (mr mf : MS) : MS := fun g S Q E => ∃ d, g[0]? = some (.va d) ∧ g[1]? = some (.va (.ref f)) ∧ act d S (fun r S1 => mr (g.set i (.va r)) S1 (fun o S2 => ∃ g2, o = .nx g2 ∧ mf g2 S2 Q noE) noE)
  (fun x S1 => mf g S1 (fun o S2 => ∃ g2, o = .nx g2 ∧ x.fs = [] ∧ E x S2) noE)
section
variable {X : Cx} {E : XK} {b : Bs}
theorem s_tryAct {i : Nat} {f : Addr} {act : D → T D} {mr mf : MS} {x : Str} {px p1 pos : Pos} {call : Expr} {rest fs : List Stmt} {f₀ : Stmt} (hs : X.stack = X.env :: X.outer) (hf : X.env.frame = some X.env.locals) (hex : X.ex = []) (tk : Takes X (fun cls d _ H => E cls d H)) (hNd : X.N.Nodup) (hi : X.N[i]? = some x) (hx : Loc X.env.scope x)
    (hl : X.fn x = true ∨ X.env.scope.names.lookup x = some .local)
    (ha : ∀ (W : WX) (pn : List (Addr × Obj)) (xe : Value → Shared → Prop), Takes (X.tr pn xe) W → PE (X.tr pn xe) call (actT X.K b f act W))
    (hr : ∀ (pn : List (Addr × Obj)) (xe : Value → Shared → Prop), XSs (X.tr pn xe) C8.E0 b rest mr) (h1 : XSs X.nox C8.E0 b (f₀ :: fs) mf) (h2 : ∀ (a : Addr) (pn : List (Addr × Obj)), XSs (X.suite a pn) C8.E0 b (f₀ :: fs) mf)
    (hsw : ∀ (pn : List (Addr × Obj)) (xe : Value → Shared → Prop), swapsWith call (some (.Name x px)) p1.line (X.tr pn xe).env = pure false := by intro _ _; rfl) :
    XS X E b (.Try (.Assign [.Name x px] call p1 :: rest) [] [] (f₀ :: fs) pos) (tryAct i f act mr mf) := by
  refine ps_w (Lam4.ps_tryFin (Wout := fun cls d _ H => E cls d H) (tb := fun W => tSeq (tAsg (actT X.K b f act W) (gName i)) (ls X.K C8.E0 b mr)) (tf := ls X.K C8.E0 b mf) (tfs := ls X.K C8.E0 b mf) hs hf hex tk (fun W pn xe t _ => pss_cons (ps_set (X := X.tr pn xe) hNd hi hx (ha W pn xe t) (hsw pn xe) hl) (hr pn xe)) h1 h2) fun D σ H ⟨g, S, H0, Qd, Ed, r, ⟨d, h0, hg1, hm⟩, hq, he⟩ => ?_
  refine ⟨g, S, H0, _, _, d, r, h0, hg1, hm, fun rr S1 hf v H1 H01 st1 gr1 rv => ?_, fun y S1 hf o H1 H01 st1 gr1 rx => ?_⟩
  · refine ⟨g.set i (.va rr), S1, H01, _, _, (r.grow st1 gr1).set rv i, hf, fun o S2 ⟨g2, eo, hmf⟩ => ?_, fun _ _ z => z.elim⟩
    subst eo
    exact fun σ2 H2 H02 r2 sb => ⟨g2, S2, H02, Qd, _, r2, hmf, fun o S3 q => (hq o S3 q).mono fun a o z => sb a o (gr1.sub a o z), fun _ _ z => z.elim⟩
  · refine ⟨g, S1, H01, _, _, r.grow st1 gr1, hf, fun o2 S2 ⟨g2, eo, hfs, hE⟩ => ?_, fun _ _ z => z.elim⟩
    subst eo
    refine fun σ2 H2 H02 r2 sb => ?_
    have ho : o = none := by
      rcases rx with ⟨_, e⟩ | ⟨e, _⟩
      · exact e
      · exact absurd hfs e
    exact he y S2 hE o H2 H02 r2.rel.st r2.gb (.inl ⟨hfs, ho⟩)
end
end DL

set_option Elab.async false
set_option linter.all false
set_option maxRecDepth 100000
set_option maxHeartbeats 4000000
namespace DL
open PySem PySem.Spec PyProof.Rows L2 STx OrdS
/-- one slot more -/
theorem rel_app {K : PySem.W.Frag} {σ : L2.St} {H H0 : Hp} {S : Sto} {g : Sg} (r : Rel K σ H H0 S g) {v : V} {d : D} (h : Rp K H0 v d) : Rel K (σ ++ [some v]) H H0 S (g ++ [.va d]) := by
  have at_ : ∀ (i : Nat) s, (g ++ [Sl.va d])[i]? = some s → (g[i]? = some s ∧ (σ ++ [some v])[i]? = σ[i]?) ∨ (s = .va d ∧ (σ ++ [some v])[i]? = some (some v)) := fun i s e => by
    by_cases hi : i < g.length
    · rw [List.getElem?_append_left hi] at e
      exact .inl ⟨e, List.getElem?_append_left (by rw [r.len]; exact hi)⟩
    · have hi2 : i = g.length := by
        have := (List.getElem?_eq_some_iff.mp e).1
        rw [List.length_append, List.length_singleton] at this
        omega
      subst hi2
      rw [List.getElem?_append_right (Nat.le_refl _), Nat.sub_self] at e
      exact .inr ⟨(Option.some.inj e).symm, by rw [List.getElem?_append_right (by rw [r.len]; exact Nat.le_refl _), r.len, Nat.sub_self]; rfl⟩
  refine ⟨r.st, by rw [List.length_append, List.length_append, r.len]; rfl, fun i s e => ?_, fun i j si sj p hij hi hj oi oj h1 => ?_⟩
  · rcases at_ i s e with ⟨e1, e2⟩ | ⟨rfl, e2⟩
    · rw [e2]; exact r.sl i s e1
    · rw [e2]; exact ⟨v, rfl, h⟩
  · rcases at_ i si hi with ⟨e1, e2⟩ | ⟨rfl, _⟩
    · rcases at_ j sj hj with ⟨e3, e4⟩ | ⟨rfl, _⟩
      · rw [e2] at h1
        rw [e4]
        exact r.di i j si sj p hij e1 e3 oi oj h1
      · cases oj
    · cases oi
/-- what a method does that gets a lambda: act, what the lambda does -/
def attD (N : Nat) (m : Addr → (D → T D) → MS) (act : D → T D) (d : D) : T D := fun S Q E => ∀ f, runD (m f act) N [d, .ref f] S Q E
section
variable {X : Cx} {E : XK}
theorem x_att {KC : Hp → Prop} {c P fA : Addr} {k : Nat} {cn m a0 a1 q qualA p : Str} {stA : Stmt} {NA : List Str} {mo mb : ME} {mA : Addr → (D → T D) → MS} {FA : (D → T D) → D → T D} {params : Arguments} {o body : Expr} {scope : Scope} {apos pos lpos cp1 cp2 cp3 : Pos} {pl : Sem Bool}
    (Cc : Cls X.K (He.ga X.K cn)) (Mm : Meth X.K (He.ga X.K cn) m fA) (Fn : ∃ fd, FnP X.K m qualA stA fA fd) (Sc : FnScope NA [a0, a1] (defScope stA))
    (hbA : ∀ (kV doc pm : Value) (an : Option Addr) (cdv ct : Value) (us : List Value), us.length = 2 → bindArgs (PySem.W.fnOf m qualA (defArgs stA) (defBody stA) (defScope stA) .none kV doc pm an cdv ct) ⟨us, []⟩ = pure ([a0, a1].zip us))
    (hr : Room (k + 2) X.A) (TB : ∃ c0 P0, LamX.TabB X.base X.mg c0 P0) (hcode : X.env.code = .ref c) (hC : ∀ pins s σ H, L2.Inv X pins σ H s → KC H → PySem.W.CodeHd s.heap c P)
    (hK : ∀ H H0 S H' H0' S', StR X.K H H0 S → KC H → Grow H H0 S H' H0' S' → KC H') (hx : Passes (L2.CX X.prog X.w) X E) (ho : XE X E o mo) (L : Lam4.lamPB X.env.scope scope p = true) (hp : p ∉ X.N)
    (hbody : ∀ (A : Around) (outer : List Env) (s : Shared) (H : Hp) (E : XK) (f c' : Addr), Room k (A.deeper (LamX.lamEnv X scope s.heap.objs.size f c')) → Passes (L2.CX X.prog X.w) (Lam4.lamCxP X A outer s H E scope f c' p) E → PE (Lam4.lamCxP X A outer s H E scope f c' p) body (lf X.K E (RF X.K) mb))
    (hatt : ∀ (cdv : Value) (A : Around) (outer : List Env) (s : Shared) (H : Hp) (E : XK) (b : Bs) (f : Addr) (act : D → T D), Room (k + 1) (bodyCx X.prog X.w X.K X.mg X.base NA qualA stA fA cdv A outer s H E).A →
      (∀ (W : WX) (pn : List (Addr × Obj)) (xe : Value → Shared → Prop), Takes ((bodyCx X.prog X.w X.K X.mg X.base NA qualA stA fA cdv A outer s H E).tr pn xe) W → PE ((bodyCx X.prog X.w X.K X.mg X.base NA qualA stA fA cdv A outer s H E).tr pn xe) (.Call (.Name a1 cp1) [.Name a0 cp2] [] cp3) (actT X.K b f act W)) →
      XSs (bodyCx X.prog X.w X.K X.mg X.base NA qualA stA fA cdv A outer s H E) E b (defBody stA) (mA f act))
    (hFA : ∀ (act : D → T D) (d : D) (S : Sto) (Qd : D → Sto → Prop) (Ed : Xn → Sto → Prop), FA act d S Qd Ed → attD NA.length mA act d S Qd Ed)
    (h0 : NA[0]? = some a0) (h1 : NA[1]? = some a1) (v0 : Vis (defScope stA) a0) (v1 : Vis (defScope stA) a1) (d0 : (a0 == ("__debug__" : Str)) = false) (d1 : (a1 == ("__debug__" : Str)) = false) (e0 : (a0 == ("__classdict__" : Str)) = false) (e1 : (a1 == ("__classdict__" : Str)) = false)
    (hdef : defaultsOf params X.env = ([], []) := by rfl)
    (hbind : ∀ (q : Str) (cl : List (Str × Addr)) (pm cv ctv u : Value), bindArgs (PySem.W.kla_fn "<lambda>" q params body scope cl pm cv ctv) ⟨[u], []⟩ = pure [(p, u)] := by intro _ _ _ _ _ _; rfl) (hq : q = X.env.qual ++ "<lambda>" := by rfl)
    (hst : ∀ (cdv : Value) (n : Nat), starEach [.Name a0 cp2] (envOfC qualA (defScope stA) n fA cdv) = (false, eval (.Name a0 cp2) (envOfC qualA (defScope stA) n fA cdv)) :: starEach [] (envOfC qualA (defScope stA) n fA cdv) := by intro _ _; rfl)
    (ht : eval (.Call (.Attribute o m apos) [.Lambda params body scope lpos] [] pos) X.env = (do
      let ov ← eval o X.env
      standAt apos.atName
      let (f, first) ← holding [ov] (getMethod ov m pl)
      callWith pos f first (backTo pos (starEach [.Lambda params body scope lpos] X.env)) (backToKw pos (keywordEach [] X.env))) := by rfl) :
    PE X (.Call (.Attribute o m apos) [.Lambda params body scope lpos] [] pos) (fun σ H Q => KC H ∧ lf X.K E (RF X.K) (fun g => T.bind (mo g) fun d => insOf cn d fun _ fs => T.bind (dNeed (fs.lookup m = none)) fun _ => lamDT P q fun _ => FA (fun v => mb (g ++ [.va v])) d) σ H Q) := by
  obtain ⟨fd, Fn⟩ := Fn
  have bi := FunD.bindsN (ps := [a0, a1]) Fn hbA
  obtain ⟨oc, od, dV, kV, doc, pm, an, cdv, ct, osl, rfl, lk, hcd, _, _⟩ := Fn.ex
  have LP := Lam4.lamP_by L
  refine ⟨fun pins s σ H Q I ⟨hk, g, S, H0, Qd, Ed, rel, hm, hq', he⟩ => ?_⟩
  refine PySem.W.methodCall_KW (pl := pl) (thn (ho.run pins s σ H (fun v H1 => ∃ d S1 H01, StR X.K H1 H01 S1 ∧ Grow H H0 S H1 H01 S1 ∧ Rp X.K H01 v d ∧ insOf cn d (fun _ fs => T.bind (dNeed (fs.lookup m = none)) fun _ => lamDT P q fun _ => FA (fun v => mb (g ++ [.va v])) d) S1 Qd Ed) I
    ⟨g, S, H0, _, Ed, rel, hm, fun d S1 hf v H1 H01 st1 gr1 r1 => ⟨d, S1, H01, st1, gr1, r1, hf⟩, he⟩) fun u s1 ⟨x, H1, I1, rx, d, S1, H01, st1, gr1, rv, hf⟩ => ?_) ht
  obtain ⟨a, fs, rfl, hS, hn, hf⟩ := hf
  cases rv
  obtain rfl : u = Value.ref a := rx
  obtain ⟨dx, vs, i1, ik, _⟩ := st1.sto a _ hS
  refine getmeth_ok I1 i1 Cc Mm (flds_none ik hn) ?_
  refine PySem.W.callWith_K (first := [.ref a]) (h₀ := X.base) I.ok.mod.kin Mm.kp ?_ (by rfl) (by rfl)
  show wpAny _ _ (spliced ((false, eval (.Lambda params body scope lpos) X.env) :: backTo pos (starEach [] X.env))) _ _ s1
  obtain ⟨Ls, hT, hin, hnew⟩ := hf
  have k1 := hK H H0 S H1 H01 S1 rel.st hk gr1
  refine Calls.spliced_cons (Lam4.makeT I1 TB (hC _ _ _ _ I1 k1) hcode hq (st1.sto P _ hT) hdef (LP.has I.ok) fun f c' P' pm' ctv H2 s2 I2 stp hfo hfn hfr hco => ?_)
  refine Calls.spliced_nil ⟨I2.kIn, ?_⟩
  -- the step, in the store
  obtain ⟨S2, st2, gr2, hF⟩ : ∃ S2, StR X.K H2 H01 S2 ∧ Grow H1 H01 S1 H2 H01 S2 ∧ attD NA.length mA (fun v => mb (g ++ [.va v])) (.ref a) S2 Qd Ed := by
    rcases st1.lamT hT stp with ⟨hL, st2, gr2⟩ | ⟨hP, st2, gr2⟩
    · exact ⟨S1, st2, gr2, hFA _ _ _ _ _ (hin P' hL)⟩
    · exact ⟨_, st2, gr2, hFA _ _ _ _ _ (hnew P' hP)⟩
  have gr := gr1.trans st1 gr2
  have rel2 := rel.grow st2 gr
  have noS : S2 c' = none := by
    cases e : S2 c' with
    | none => rfl
    | some mm => exact absurd hco ((st2.sto c' mm e).noE _)
  have rc : codeAny (model X.prog X.w) X.A (.call (.ref fA) ⟨[.ref a, .ref f], []⟩) (CR (L2.CX X.prog X.w) X.stack X.prog X.w H2 s2 Q E) s2 := by
    refine LamX.run_ofS (N := NA) (ps := [a0, a1]) (us := [.ref a, .ref f]) (vs := [.ref a, .ref f]) lk hcd Sc hr I2.env0 (bi s2 [.ref a, .ref f] I2.kIn rfl) (.cons rfl (.cons rfl .nil)) rfl fun hr' => ?_
    refine ⟨_, hatt cdv X.A X.stack s2 H2 E ⟨H2, H01, S2⟩ f (fun v => mb (g ++ [Sl.va v])) hr' (fun W pn xe tk => ?_), startG NA.length [.ref a, .ref f], S2, H01, fun o S' => outD o S' Qd Ed, Ed, relB_start st2 (.cons (.ref a) (.cons (.ref f) .nil)), hF f, fun o S' q => ?_, fun x S' ex => (he x S' ex).grow st2 gr⟩
    · have pv := pe_var (X := (bodyCx X.prog X.w X.K X.mg X.base NA qualA stA fA cdv X.A X.stack s2 H2 E).tr pn xe) (pos := cp2) h0 v0 d0 e0
      refine pe_w (Lam4.pe_actP (p1 := cp1) (p2 := cp3) (tb := fun E => lf X.K E (RF X.K) mb) I2 LP hp hfo hfn hfr (fun u => hbind _ _ _ _ _ u) tk hr' (fun A outer s H E h => hbody A outer s H E f c' h (passes_call (takes_of (E := E) rfl rfl rfl rfl) fun _ _ _ _ h => h)) h1 v1 pv (hst _ _) d1 e1) fun σZ HZ QZ ⟨gZ, SZ, H0Z, QdZ, EdZ, d, rB, g0, g1, hact, hqZ, heZ⟩ => ?_
      obtain ⟨w1, hw1, rw1⟩ := rB.rel.sl 1 _ g1
      cases rw1
      obtain ⟨w0, hw0, rw0⟩ := rB.rel.sl 0 _ g0
      refine ⟨hw1, w0, hw0, ⟨_, rB.gb.keep c' _ hco noS, by rw [← hq]; exact Lam4.codeIs_T⟩, fun cls d H' => W cls d σZ H', fun _ _ _ h => h, ?_⟩
      exact ⟨g ++ [.va d], SZ, H0Z, QdZ, EdZ, rel_app (rel2.grow rB.rel.st rB.gb) rw0, hact, fun r S' h v H' H0' st' gr' rr => hqZ r S' h v H' H0' st' gr' rr, fun y S' h o H' H0' st' gr' rx => heZ y S' h o H' H0' st' gr' rx⟩
    · cases o with
      | nx g' => exact fun σ' H' H0' r' _ => hq' _ S' q _ H' H0' r'.rel.st (gr.trans st2 r'.gb) .non
      | rt d => exact fun v H' H0' st3 gr3 rv => hq' _ S' q v H' H0' st3 (gr.trans st2 gr3) rv
      | bk g' => exact q.elim
      | ct g' => exact q.elim
  refine wpAny_call (codeAny_mono rc fun r s3 hres => ?_)
  cases r with
  | error e => exact hx pins σ H2 s2 e s3 I2 hres
  | ok fl =>
    cases fl with
    | ret u => exact I2.after hres
    | next => exact False.elim hres
    | brk => exact False.elim hres
    | cont => exact False.elim hres
end
end DL

set_option Elab.async false
set_option linter.all false
set_option maxRecDepth 100000
set_option maxHeartbeats 4000000
namespace DL
open PySem PySem.Spec PyProof.Rows L2 STx OrdS
/-! ### word = w0; try: a() / except C: word = 'w' .. ; return word -/
def aSuite (i : Nat) (w : Str) : Addr → Value → Option Addr → TS := fun _ _ _ D σ H => D.nx (σ.set i (some (.str w))) H
def aCl (K : PySem.W.Frag) (i : Nat) (q : Str × Str) : Value × (Addr → Value → Option Addr → TS) := (.ref (He.ga K q.1), aSuite i q.2)
theorem many_wish2 {K : PySem.W.Frag} {M : Str} {Q : VK} {D : Ends} {Wout : WX} {i : Nat} {rest : List (Value × (Addr → Value → Option Addr → TS))} (hD : ∀ (σ : L2.St) (H : Hp) (w : Str), i < σ.length → Q (.str w) H → D.nx (σ.set i (some (.str w))) H) :
    ∀ (cs : List (Str × Str)) (ns : List Str), ExcT K M ns → (∀ q ∈ cs, q.1 ∈ ns) → ∀ (cls : Value) (d : Option Addr) (σ : L2.St) (H : Hp), i < σ.length → wordX K cs Q cls d H → wMany K Wout D (cs.map (aCl K i) ++ rest) cls d σ H
  | [], _, _, _, _, _, _, _, _, ⟨_, n, w, _, hl, _⟩ => by cases hl
  | (m0, w0) :: r, ns, T, hns, cls, d, σ, H, hi, ⟨ho, n, w, hcl, hl, hq⟩ => by
    have hn1 : n ∈ ns := hns _ (PySem.mem_of_lookup hl)
    subst ho hcl
    refine ⟨_, T.ex n hn1 m0 (hns _ List.mem_cons_self), fun hb a na => ?_, fun hb => ?_⟩
    · obtain rfl : n = m0 := of_decide_eq_true hb
      obtain rfl : w = w0 := by
        simp [List.lookup] at hl
        exact hl.symm
      exact hD σ H w hi hq
    · have ne : n ≠ m0 := of_decide_eq_false hb
      have hl' : r.lookup n = some w := by
        have e' : (n == m0) = false := by simpa using ne
        simp [List.lookup, e'] at hl
        exact hl
      exact many_wish2 hD r ns T (fun q hq => hns q (List.mem_cons_of_mem _ hq)) _ _ σ H hi ⟨rfl, n, w, rfl, hl', hq⟩
/-- the def that calls what it got: a calls it -/
def GivesW (X : Cx) (Ng : List Str) (x : Str) (sg : Scope) (g : Addr) (cdg : Value) (bg : List Stmt) (a : Str) (TT : (XK → Hp → VK → Prop) → Hp → VK → Prop) : Prop :=
  ∀ (f : Addr) (C : Hp → Prop) (s : Shared) (H : Hp) (Q : VK) (tl : XK → Hp → VK → Prop),
    (∀ (W : WX) (pn : List (Addr × Obj)) (xe : Value → Shared → Prop) (p1 p2 : Pos), Takes ((cxOf C8.CX0 X.prog X.w X.K X.mg X.base Ng x sg g cdg X.A X.stack s H C8.E0).tr pn xe) W →
      PE ((cxOf C8.CX0 X.prog X.w X.K X.mg X.base Ng x sg g cdg X.A X.stack s H C8.E0).tr pn xe) (.Call (.Name a p1) [] [] p2) (fun σZ HZ Q => σZ[0]? = some (some (.ref f)) ∧ C HZ ∧ ∃ E : XK, (∀ cls d H', E cls d H' → W cls d σZ H') ∧ tl E HZ Q)) →
    C H → TT tl H Q → ∃ t, PSs (cxOf C8.CX0 X.prog X.w X.K X.mg X.base Ng x sg g cdg X.A X.stack s H C8.E0).nox bg t ∧ t { nx := fun _ H' => Q .non H', rt := Q } (L2.start Ng [.ref f]) H
section
variable {X : Cx}
theorem a_suite {w x : Str} {i j : Nat} {p1 p2 px : Pos} (hNd : X.N.Nodup) (hi : X.N[i]? = some x) (hx : Loc X.env.scope x) (hl : X.fn x = true ∨ X.env.scope.names.lookup x = some .local) (a : Addr) (cls : Value) (d : Option Addr)
    (hs : swapsWith (.Constant (.str w) j p1) (some (.Name x px)) p2.line X.env = pure false := by rfl) : PSs X [.Assign [.Name x px] (.Constant (.str w) j p1) p2] (aSuite i w a cls d) :=
  pss_w (pss_one (ps_set hNd hi hx pe_str hs hl)) fun D σ H h => h
theorem wordA_gives {Ng : List Str} {x a wv M w0 : Str} {sg : Scope} {g : Addr} {cdg : Value} {j : Nat} {rest : List (Value × (Addr → Value → Option Addr → TS))} {cs : List (Str × Str)} {ns : List Str} {h0 : ExceptHandler} {hds : List ExceptHandler} {p1 p2 p3 p8 p9 q1 q2 q3 q4 : Pos} (T : ExcT X.K M ns) (hns : ∀ q ∈ cs, q.1 ∈ ns) (hNd : Ng.Nodup)
    (hlen : 1 < Ng.length) (hi : Ng[1]? = some wv) (hloc : sg.names.lookup wv = some .local) (dw : (wv == ("__debug__" : Str)) = false) (ew : (wv == ("__classdict__" : Str)) = false)
    (hh : ∀ (s : Shared) (H : Hp), HdsOk ((cxOf C8.CX0 X.prog X.w X.K X.mg X.base Ng x sg g cdg X.A X.stack s H C8.E0).nox) (h0 :: hds) (cs.map (aCl X.K 1) ++ rest))
    (hsw0 : ∀ (s : Shared) (H : Hp), swapsWith (.Constant (.str w0) j q1) (some (.Name wv q2)) q3.line (cxOf C8.CX0 X.prog X.w X.K X.mg X.base Ng x sg g cdg X.A X.stack s H C8.E0).env = pure false := by intro _ _; rfl)
    (hsw : ∀ (s : Shared) (H : Hp), swapsWith (.Call (.Name a p1) [] [] p2) none p3.line (cxOf C8.CX0 X.prog X.w X.K X.mg X.base Ng x sg g cdg X.A X.stack s H C8.E0).env = pure false := by intro _ _; rfl) :
    GivesW X Ng x sg g cdg [.Assign [.Name wv q2] (.Constant (.str w0) j q1) q3, .Try [.Expr (.Call (.Name a p1) [] [] p2) p3] (h0 :: hds) [] [] p8, .Return (some (.Name wv q4)) p9] a (wordT X.K cs w0) := by
  intro f C s H Q tl act hc h
  have hS : (L2.start Ng [V.ref f]).length = Ng.length := by unfold L2.start; simp; omega
  refine ⟨_, pss_cons (ps_set (X := (cxOf C8.CX0 X.prog X.w X.K X.mg X.base Ng x sg g cdg X.A X.stack s H C8.E0).nox) (i := 1) hNd hi (.inl hloc) pe_str (hsw0 s H) (.inr hloc))
    (pss_cons (ps_try_many (X := (cxOf C8.CX0 X.prog X.w X.K X.mg X.base Ng x sg g cdg X.A X.stack s H C8.E0).nox)
      (tb := fun W D σ H => ∃ Ech : XK, (∀ cls d H', Ech cls d H' → W cls d σ H') ∧ σ[0]? = some (some (.ref f)) ∧ C H ∧ tl Ech H fun _ H' => D.nx σ H')
      rfl rfl LamX.takes0 (fun W pn xe tk _ => ?_) (hh s H)) (pss_one (ps_ret (pe_var (i := 1) hi (.inl hloc) dw ew)))), ?_⟩
  · refine ⟨fun pins s' σ H' D I ⟨Ech, hW, h1, h2, h3⟩ => ?_⟩
    exact (pss_one (ps_expr (pos := p3) (act W pn xe p1 p2 tk) (hsw s H))).run pins s' σ H' D I ⟨h1, h2, Ech, hW, h3⟩
  · have l1 : 1 < ((L2.start Ng [V.ref f]).set 1 (some (.str w0))).length := by rw [List.length_set, hS]; exact hlen
    refine ⟨wordX X.K cs Q, fun cls d H' z => ?_, ?_, hc, ?_⟩
    · refine many_wish2 (Q := Q) (fun σ H w hi hq => ?_) cs ns T hns cls d _ H' l1 z
      exact ⟨.str w, by rw [List.getElem?_set_self hi], hq⟩
    · rw [List.getElem?_set_ne (by decide)]; rfl
    · have h : tl (wordX X.K cs Q) H fun _ H' => Q (.str w0) H' := h
      have e : (fun (_ : V) (H' : Hp) => ∃ v, ((L2.start Ng [V.ref f]).set 1 (some (V.str w0)))[1]? = some (some v) ∧ Q v H') = fun _ H' => Q (.str w0) H' := by
        funext _ H'
        refine propext ⟨fun ⟨v, e1, e2⟩ => ?_, fun hq => ⟨_, by rw [List.getElem?_set_self (by rw [List.length_set] at l1; exact l1)], hq⟩⟩
        rw [List.getElem?_set_self (by rw [List.length_set] at l1; exact l1)] at e1
        cases e1
        exact e2
      show tl (wordX X.K cs Q) H fun _ H' => ∃ v, ((L2.start Ng [V.ref f]).set 1 (some (V.str w0)))[1]? = some (some v) ∧ Q v H'
      rw [e]
      exact h
theorem x_lamwordT {x a q w0 : Str} {c P : Addr} {k : Nat} {stw : Stmt} {Ng : List Str} {cs : List (Str × Str)} {params : Arguments} {body : Expr} {scope : Scope} {mb : Addr → ME} {E : XK} {p lpos pos : Pos}
    (F : ∃ fd, WordDef X.K X.mg x a stw Ng fd) (hG : ∀ cdv, GivesW X Ng x (defScope stw) (He.ga X.K x) cdv (defBody stw) a (wordT X.K cs w0)) (TB : LamX.TabB X.base X.mg c P) (hcode : X.env.code = .ref c) (hr : Room (k + 2) X.A) (L : LamX.lamSB X.env.scope scope = true)
    (hbody : ∀ (A : Around) (outer : List Env) (s : Shared) (H : Hp) (E : XK) (f c' P' : Addr), Room k (A.deeper (LamX.lamEnv X scope s.heap.objs.size f c')) → Passes (L2.CX X.prog X.w) (LamX.lamCx X A outer s H E scope f c') E → PE (LamX.lamCx X A outer s H E scope f c') body (fun σ H Q => H c' = some (Lam4.CodeT c' q P') ∧ lf X.K E (RF X.K) (mb P') σ H Q))
    (hg : Gl X x := by rfl) (hq : q = X.env.qual ++ "<lambda>" := by rfl) (hdef : defaultsOf params X.env = ([], []) := by rfl)
    (hbind : ∀ (q : Str) (cl : List (Str × Addr)) (pm cv ctv : Value), bindArgs (PySem.W.kla_fn "<lambda>" q params body scope cl pm cv ctv) ⟨[], []⟩ = pure [] := by intro _ _ _ _ _; rfl)
    (hdb : (x == ("__debug__" : Str)) = false := by decide) :
    XE X E (.Call (.Name x p) [.Lambda params body scope lpos] [] pos) (fun g => lamDT P q fun P' => wordD cs w0 (mb P' g)) := by
  obtain ⟨fd, F⟩ := F
  obtain ⟨oc, od, dV, kV, doc, pm, an, cdv, ct, osl, rfl, lk, hcd, _, _⟩ := F.fn.ex
  have LS := LamX.lamS_by L
  refine ⟨fun pins s σ H Q I ⟨g, S, H0, Qd, Ed, rel, ⟨Ls, hT, hin, hnew⟩, hq', he⟩ => ?_⟩
  refine wpAny_Call_Name_kw (ld_glob I hg F.gl ?_ hdb)
  refine PySem.W.callWith_K (h₀ := X.base) I.ok.mod.kin F.fn.kp ?_ (by rfl) (by rfl)
  show wpAny _ _ (spliced ((false, eval (.Lambda params body scope lpos) X.env) :: backTo pos (starEach [] X.env))) _ _ s
  refine Calls.spliced_cons (Lam4.makeT I ⟨c, P, TB⟩ (TB.code.keeps I.bk) hcode hq (rel.st.sto P _ hT) hdef (LS.has I.ok) fun f c' P' pm' ctv H2 s2 I2 stp hfo hfn hfr hco => ?_)
  refine Calls.spliced_nil ⟨I2.kIn, ?_⟩
  obtain ⟨S2, st2, gr2, hF⟩ : ∃ S2, StR X.K H2 H0 S2 ∧ Grow H H0 S H2 H0 S2 ∧ wordD cs w0 (mb P' g) S2 Qd Ed := by
    rcases rel.st.lamT hT stp with ⟨hL, st2, gr2⟩ | ⟨hP, st2, gr2⟩
    · exact ⟨S, st2, gr2, hin P' hL⟩
    · exact ⟨_, st2, gr2, hnew P' hP⟩
  have rel2 := rel.grow st2 gr2
  have rc : codeAny (model X.prog X.w) X.A (.call (.ref (He.ga X.K x)) ⟨[.ref f], []⟩) (CR C8.CX0 X.stack X.prog X.w H2 s2 Q C8.E0) s2 := by
    refine LamX.run_ofS (N := Ng) (ps := [a]) (us := [.ref f]) (vs := [.ref f]) lk hcd F.sc hr I2.env0 (F.bi s2 [.ref f] I2.kIn rfl) (.cons rfl .nil) rfl fun hr' => ?_
    have key := hG cdv f (fun HZ => ∃ o, HZ c' = some o ∧ Lam4.CodeIs o c' q) s2 H2 Q (fun E H' Q' => H' c' = some (Lam4.CodeT c' q P') ∧ lf X.K E (RF X.K) (mb P') σ H' Q') 
    have mid := key (fun W pn xe p1 p2 tk => ?_) ⟨_, hco, Lam4.codeIs_T⟩ ?_
    · obtain ⟨t', ht', hq2⟩ := mid
      exact ⟨t', ht'.nox, hq2⟩
    · subst hq
      exact Lam4.pe_act0 (p1 := p1) (p2 := p2) (tb := fun E σ H Q => H c' = some (Lam4.CodeT c' (X.env.qual ++ "<lambda>") P') ∧ lf X.K E (RF X.K) (mb P') σ H Q) I2 LS hfo hfn hfr (hbind _ _ _ _ _) tk hr' (fun A outer s H E h => hbody A outer s H E f c' P' h (passes_call (takes_of (E := E) rfl rfl rfl rfl) fun _ _ _ _ h => h)) F.n0 F.vs F.da F.ca
    · refine ⟨hco, g, S2, H0, _, _, rel2, hF, fun d S' h v H' H0' st' gr' r => hq' _ S' h _ H' H0' st' (gr2.trans st2 gr') (.str _), fun y S' h o H' H0' st' gr' rx => ?_⟩
      obtain ⟨hf, w, hw, h⟩ := h
      refine ⟨?_, y.cls, w, rfl, hw, hq' _ S' h _ H' H0' st' (gr2.trans st2 gr') (.str _)⟩
      rcases rx with ⟨_, e⟩ | ⟨e, _⟩
      · exact e
      · exact absurd hf e
  refine wpAny_call (codeAny_mono rc fun r s3 hres => ?_)
  match r, hres with
  | .error e, hres => exact (show False from hres).elim
  | .ok (.ret u), hres => exact I2.after hres
  | .ok .next, hres => exact False.elim hres
  | .ok .brk, hres => exact False.elim hres
  | .ok .cont, hres => exact False.elim hres
end
end DL

set_option Elab.async false
set_option linter.all false
set_option maxRecDepth 100000
set_option maxHeartbeats 4000000
namespace DL
open PySem PySem.Spec PyProof.Rows L2 STx OrdS
/-- the store at a law's start: tables of code objects, empty -/
def S0T (K : PySem.W.Frag) (tq : List (He.Defn × Str)) : Sto := fun a => ((tq.map fun p => ((He.cT K p.1).2, p.2)).lookup a).map fun q => MO.own (tabM q [])
/-- list(e), e a list of the store -/
def dListM : List D → T D
  | [d] => lstOf d fun _ xs => T.pure (.lst xs)
  | _ => T.fail
theorem s_listM {K : PySem.W.Frag} : CallS K (RN K) (fun xs H Q => ∃ p ys, xs = [.ref p] ∧ (SqL K H p ys ∨ SqT K H p ys) ∧ ∀ l, H l = none → Q (.ref l) (upd H l (.lst ys))) dListM := by
  intro vs ds H H0 S Qd Ed Q st rs hf hq
  unfold dListM at hf
  split at hf
  · obtain ⟨v, rfl, rv⟩ := rs.one
    obtain ⟨a, xs, e, hS, hf⟩ := hf
    subst e
    cases rv.ref
    obtain ⟨ws, h1, r⟩ := st.sto _ _ hS
    refine ⟨a, ws, rfl, .inl (.of h1), fun l hl => ?_⟩
    obtain ⟨st2, gr2, n0, nS⟩ := alloc_n st hl (.lst ws)
    exact hq _ S hf _ _ _ st2 gr2 (.inl ⟨l, _, _, rfl, rfl, hl, upd_same, n0, nS, r⟩)
  · exact hf.elim
/-- the table of a code object that is told in the heap -/
theorem hd_T {X : Cx} {c P : Addr} {q : Str} : ∀ pins s σ H, L2.Inv X pins σ H s → H c = some (Lam4.CodeT c q P) → PySem.W.CodeHd s.heap c P := fun _ _ _ _ I h => (I.hok c _ h).1.2
theorem keep_T {K : PySem.W.Frag} {c P : Addr} {q : Str} : ∀ H H0 S H' H0' S', StR K H H0 S → H c = some (Lam4.CodeT c q P) → Grow H H0 S H' H0' S' → H' c = some (Lam4.CodeT c q P) := fun H H0 S H' H0' S' st h gr => gr.keep c _ h (by
  cases e : S c with
  | none => rfl
  | some m => exact absurd h ((st.sto c m e).noE _))
theorem law_endT {l : PySem.W.OpenLaw} {n k N : Nat} {q : Program} {loose : List Str} {XP : (Str → Option Value) → Heap → Prop} {d : DefRec} {fa : List He.Fa} {fn : List He.DefD} {ts : List He.Tab} {tq : List (He.Defn × Str)} {ex : PySem.W.Frag → Bool} {fy : List DefY} {x lawN : Str} {F : PySem.W.Frag → List D → T D}
    (hn : l.most = some n) (hn2 : n ≤ sizeLine) (hdf : d.params.defaults = []) (hr : Room k callerA) (hdn : d.name = lawN)
    (ok : ∀ (w : World) (K : PySem.W.Frag) (mg : Str → Option Value) (h : Heap), K.In h → h.Ns mainGlobals mg → SaysY fa fn ts (tq.map (·.1)) ex fy w h K → (∃ fd, (∀ (s : Shared) (u : Value), BindsTo s fd ⟨[u], []⟩ [(x, u)]) ∧ ∃ oc od osl, K.lookup (He.ga K lawN) = some ⟨oc, od, .func fd, osl⟩) ∧ mg lawN = some (.ref (He.ga K lawN)) ∧
      ∀ base : Heap, K.In base → base.Ns mainGlobals mg → (∀ p ∈ tq, LamX.TabB base mg (He.cT K p.1).1 (He.cT K p.1).2) → Ok l.prog w K mg base k lawN [x] (F K))
    (hex : ∀ K, ex K = true → (tq.map fun p => (He.cT K p.1).2).Nodup)
    (data : ∀ (K : PySem.W.Frag) (ns : List Int), ex K = true → ns.length ≤ n → (∀ z ∈ ns, Builtin.Int.intBits z ≤ 1048576) → F K [.frz (ns.map D.int)] (S0T K tq) (fun d _ => d = .bl true) fun _ _ => False) :
    PySem.W.WalkO q loose XP (hookY N fa fn ts (tq.map (·.1)) ex fy).says l.row.toRowW d [] (fun f vs => PySem.call f vs) := by
  refine LamX.walk_ofTsE (x := x) (k := k) (CX := fun w => L2.CX l.prog w) hn hn2 hdf hr (fun w mg fad h Y G hmg => ?_) fun w H s e s' z => by
    obtain ⟨_, _, _, _, _, _, _, _, _, _, _, _, z⟩ := z
    exact z
  obtain ⟨K, KX, c⟩ := Y
  obtain ⟨⟨fd, hb, oc, od, osl, lk⟩, hgl, hO⟩ := ok w K mg h KX G c
  have hF : ∀ base : Heap, K.In base → base.Ns mainGlobals mg → (∀ p ∈ tq, LamX.TabB base mg (He.cT K p.1).1 (He.cT K p.1).2) → FnOk l.prog w K mg base (L2.CX l.prog w) k (He.ga K lawN) fd [x] (SpT K 1 (F K)) := fun base h1 h2 h3 => by
    obtain ⟨fd', G', _, oc', od', osl', lk'⟩ := (hO base h1 h2 h3).ex
    rw [lk] at lk'
    have e : fd = fd' := by injection lk' with e; injection e with _ _ e _; injection e
    subst e
    exact G'
  rw [hdn] at hmg
  have e : fad = He.ga K lawN := by
    rw [hmg] at hgl
    exact Value.ref.inj (Option.some.inj hgl)
  subst e
  have nd := hex K c.x.more
  have mem : ∀ p ∈ (tq.map (·.1)).map (He.cT K), ∃ t ∈ tq, p = He.cT K t.1 := fun p hp => by
    obtain ⟨d, hd, rfl⟩ := List.mem_map.mp hp
    obtain ⟨t, ht, rfl⟩ := List.mem_map.mp hd
    exact ⟨t, ht, rfl⟩
  refine ⟨K, KX, fd, (tq.map (·.1)).map (He.cT K), SpT K 1 (F K), fun p hp => ?_, fun p hp => ?_, fun p hp => ?_, hb, fun H a ns hl hbits hH hS => ?_, fun base h1 h2 h3 => hF base h1 h2 fun t ht => h3 _ (List.mem_map.mpr ⟨t.1, List.mem_map.mpr ⟨t, ht, rfl⟩, rfl⟩)⟩
  · obtain ⟨t, ht, rfl⟩ := mem p hp
    exact c.x.empty _ (List.mem_map.mpr ⟨t, ht, rfl⟩)
  · obtain ⟨t, ht, rfl⟩ := mem p hp
    exact c.x.out _ (List.mem_map.mpr ⟨t, ht, rfl⟩)
  · obtain ⟨t, ht, rfl⟩ := mem p hp
    exact PySem.W.codeHd_of_K KX (c.x.hd _ (List.mem_map.mpr ⟨t, ht, rfl⟩))
  · have nd2 : ((tq.map fun p => ((He.cT K p.1).2, p.2)).map (·.1)).Nodup := by rw [List.map_map]; exact nd
    have tabs : ∀ b m, S0T K tq b = some m → ∃ t ∈ tq, b = (He.cT K t.1).2 ∧ m = .own (tabM t.2 []) := fun b m e => by
      unfold S0T at e
      obtain ⟨s, h1, h2⟩ := Option.map_eq_some_iff.mp e
      obtain ⟨t, ht, e2⟩ := List.mem_map.mp (mem_lookup' h1)
      cases e2
      exact ⟨t, ht, rfl, h2.symm⟩
    have at_ : ∀ t ∈ tq, H (He.cT K t.1).2 = some (.tbl #[]) := fun t ht => hH _ (List.mem_map.mpr ⟨t.1, List.mem_map.mpr ⟨t, ht, rfl⟩, rfl⟩)
    refine ⟨[.frz (ns.map D.int)], S0T K tq, fun b => if S0T K tq b = none then H b else none, fun d _ => d = .bl true, fun _ _ => False, ⟨fun b o e => ?_, fun b n => if_neg n, fun b m e => ?_⟩, .cons (.frz ?_ (Rps.ofInts ns)) .nil, rfl, data K ns c.x.more hl hbits, fun d S' e v H' H0' _ _ r => ?_, fun x S' z => z.elim⟩
    · by_cases hb : S0T K tq b = none
      · have e' : (if S0T K tq b = none then H b else none) = some o := e
        rw [if_pos hb] at e'; exact e'
      · have e' : (if S0T K tq b = none then H b else none) = some o := e
        rw [if_neg hb] at e'; cases e'
    · obtain ⟨t, ht, rfl, rfl⟩ := tabs b m e
      exact tabT_nil (at_ t ht)
    · have na : ∀ u, H a = some u → (∀ ps, u ≠ .tbl ps) → (if S0T K tq a = none then H a else none) = some u := fun u e hu => by
        have hb : S0T K tq a = none := by
          cases q : S0T K tq a with
          | none => rfl
          | some m =>
            obtain ⟨t, ht, rfl, _⟩ := tabs a m q
            rw [at_ t ht] at e
            exact absurd (Option.some.inj e).symm (hu _)
        rw [if_pos hb]; exact e
      rcases hS with (h | ⟨o, h⟩) | h
      · exact .inl (.inl (na _ h fun ps z => nomatch z))
      · exact .inl (.inr ⟨o, na _ h fun ps z => nomatch z⟩)
      · exact .inr h
    · have e : d = .bl true := e
      subst e
      cases r
      rfl
end DL

set_option Elab.async false
set_option linter.all false
set_option maxRecDepth 100000
set_option maxHeartbeats 4000000
namespace Em
open PySem PySem.Spec PyProof.Rows L2 DL OrdS

noncomputable def m_is_number : MS := (fun g => T.bind ((fun g => T.bind ((fun g => T.bind ((argsC (fun g => getv g 0) (argsC (fun _ => T.pure (.ty "int")) args0)) g) dIsi) g) fun x => T.bind (dAsB x) fun k => T.ite k ((fun g => T.bind ((fun g => T.bind ((fun g => T.bind ((argsC (fun g => getv g 0) (argsC (fun _ => T.pure (.ty "bool")) args0)) g) dIsi) g) fun x => T.bind (dAsB x) fun k => T.pure (.bl (!k))) g) fun x => T.bind (dAsB x) fun k => T.ite k ((fun g => T.bind ((fun g => getv g 1) g) fun x => T.bind ((fun g => getv g 0) g) fun y => T.bind (dLe x y) fun z => T.bind (dAsB z) fun k => T.ite k (T.bind ((fun g => getv g 2) g) fun w => dLe y w) (T.pure (.bl false))) g) (T.pure (.bl false))) g) (T.pure (.bl false))) g) fun d => T.pure (.rt d))
theorem X_is_number : ∃ f : List D → T D, f = fun ds => runD (m_is_number) 3 ds := ⟨_, rfl⟩
noncomputable def F_is_number : List D → T D := Classical.choose X_is_number
theorem F_is_number_eq : F_is_number = fun ds => runD (m_is_number) 3 ds := Classical.choose_spec X_is_number
noncomputable def m_is_good_set : MS := (fun g => T.bind ((fun g => T.bind ((fun g => T.bind ((fun g => T.bind ((fun g => T.bind ((argsC (fun g => getv g 1) (argsC (fun _ => T.pure (.ty "str")) args0)) g) dIsi) g) dTru) g) fun k => T.pure (!k)) g) fun k => T.ite k ((fun g => T.bind ((fun _ => T.pure (.bl false)) g) fun d => T.pure (.rt d)) g) ((fun g => T.pure (.nx g)) g)) g) fun o => thenO o (fun g => T.bind ((fun g => T.bind ((fun g => getv g 1) g) fun x => T.bind ((fun g => T.bind ((fun _ => T.pure (.str "")) g) fun x => T.bind (dAsS x) fun s => T.bind ((dLc (fun g => T.bind ((fun g => T.bind ((fun _ => T.pure (.str "abcd")) g) fun d => T.bind ((fun _ => T.pure none) g) fun i => T.bind ((fun g => T.bind ((fun g => getv g 0) g) fun d => T.bind (dAsI d) fun i => T.pure (some i)) g) fun j => dSl d i j) g) dItS) [2] (gN 2) (fun g => T.bind ((fun g => T.bind ((fun g => getv g 2) g) fun x => T.bind ((fun g => getv g 1) g) fun y => (dIn false) x y) g) dAsB) (fun g => getv g 2)) g) fun y => dJoin s y) g) fun y => dEq x y) g) fun d => T.pure (.rt d)))
theorem X_is_good_set : ∃ f : List D → T D, f = fun ds => runD (m_is_good_set) 3 ds := ⟨_, rfl⟩
noncomputable def F_is_good_set : List D → T D := Classical.choose X_is_good_set
theorem F_is_good_set_eq : F_is_good_set = fun ds => runD (m_is_good_set) 3 ds := Classical.choose_spec X_is_good_set
noncomputable def m_need_letters : MS := (fun g => T.bind ((fun g => T.bind ((fun g => T.bind ((fun g => T.bind ((argsC (fun g => getv g 0) (argsC (fun _ => T.pure (.int 1)) (argsC (fun g => getv g 1) args0))) g) fun ds => T.bind (dNeed (ds.length = 3)) fun _ => F_is_number ds) g) dTru) g) fun k => T.pure (!k)) g) fun k => T.ite k ((fun _ => T.raise ⟨"InvalidLetters", []⟩) g) ((fun g => T.pure (.nx g)) g))
theorem X_need_letters : ∃ f : List D → T D, f = fun ds => runD (m_need_letters) 2 ds := ⟨_, rfl⟩
noncomputable def F_need_letters : List D → T D := Classical.choose X_need_letters
theorem F_need_letters_eq : F_need_letters = fun ds => runD (m_need_letters) 2 ds := Classical.choose_spec X_need_letters
noncomputable def m_need_set : MS := (fun g => T.bind ((fun g => T.bind ((fun g => T.bind ((fun g => T.bind ((argsC (fun g => getv g 0) (argsC (fun g => getv g 1) args0)) g) fun ds => T.bind (dNeed (ds.length = 2)) fun _ => F_is_good_set ds) g) dTru) g) fun k => T.pure (!k)) g) fun k => T.ite k ((fun _ => T.raise ⟨"InvalidSet", []⟩) g) ((fun g => T.pure (.nx g)) g))
theorem X_need_set : ∃ f : List D → T D, f = fun ds => runD (m_need_set) 2 ds := ⟨_, rfl⟩
noncomputable def F_need_set : List D → T D := Classical.choose X_need_set
theorem F_need_set_eq : F_need_set = fun ds => runD (m_need_set) 2 ds := Classical.choose_spec X_need_set
noncomputable def m_joined : MS := (fun g => T.bind ((fun g => T.bind ((fun _ => T.pure (.str "")) g) fun x => T.bind (dAsS x) fun s => T.bind ((dLc (fun g => T.bind ((fun _ => T.pure (.str "abcd")) g) dItS) [2] (gN 2) (fun g => T.bind ((fun g => T.bind ((fun g => T.bind ((fun g => getv g 2) g) fun x => T.bind ((fun g => getv g 0) g) fun y => (dIn false) x y) g) dAsB) g) fun k => T.ite k (T.pure true) ((fun g => T.bind ((fun g => T.bind ((fun g => getv g 2) g) fun x => T.bind ((fun g => getv g 1) g) fun y => (dIn false) x y) g) dAsB) g)) (fun g => getv g 2)) g) fun y => dJoin s y) g) fun d => T.pure (.rt d))
theorem X_joined : ∃ f : List D → T D, f = fun ds => runD (m_joined) 3 ds := ⟨_, rfl⟩
noncomputable def F_joined : List D → T D := Classical.choose X_joined
theorem F_joined_eq : F_joined = fun ds => runD (m_joined) 3 ds := Classical.choose_spec X_joined
noncomputable def m_met : MS := (fun g => T.bind ((fun g => T.bind ((fun _ => T.pure (.str "")) g) fun x => T.bind (dAsS x) fun s => T.bind ((dLc (fun g => T.bind ((fun g => getv g 0) g) dItS) [2] (gN 2) (fun g => T.bind ((fun g => T.bind ((fun g => getv g 2) g) fun x => T.bind ((fun g => getv g 1) g) fun y => (dIn false) x y) g) dAsB) (fun g => getv g 2)) g) fun y => dJoin s y) g) fun d => T.pure (.rt d))
theorem X_met : ∃ f : List D → T D, f = fun ds => runD (m_met) 3 ds := ⟨_, rfl⟩
noncomputable def F_met : List D → T D := Classical.choose X_met
theorem F_met_eq : F_met = fun ds => runD (m_met) 3 ds := Classical.choose_spec X_met
noncomputable def m_less : MS := (fun g => T.bind ((fun g => T.bind ((fun _ => T.pure (.str "")) g) fun x => T.bind (dAsS x) fun s => T.bind ((dLc (fun g => T.bind ((fun g => getv g 0) g) dItS) [2] (gN 2) (fun g => T.bind ((fun g => T.bind ((fun g => getv g 2) g) fun x => T.bind ((fun g => getv g 1) g) fun y => (dIn true) x y) g) dAsB) (fun g => getv g 2)) g) fun y => dJoin s y) g) fun d => T.pure (.rt d))
theorem X_less : ∃ f : List D → T D, f = fun ds => runD (m_less) 3 ds := ⟨_, rfl⟩
noncomputable def F_less : List D → T D := Classical.choose X_less
theorem F_less_eq : F_less = fun ds => runD (m_less) 3 ds := Classical.choose_spec X_less
noncomputable def m_is_in : MS := (fun g => T.bind ((fun g => T.bind ((fun g => T.bind ((argsC (fun g => getv g 0) (argsC (fun g => getv g 1) args0)) g) fun ds => T.bind (dNeed (ds.length = 2)) fun _ => F_less ds) g) fun x => T.bind ((fun _ => T.pure (.str "")) g) fun y => dEq x y) g) fun d => T.pure (.rt d))
theorem X_is_in : ∃ f : List D → T D, f = fun ds => runD (m_is_in) 2 ds := ⟨_, rfl⟩
noncomputable def F_is_in : List D → T D := Classical.choose X_is_in
theorem F_is_in_eq : F_is_in = fun ds => runD (m_is_in) 2 ds := Classical.choose_spec X_is_in
noncomputable def m_every_set : MS := (fun g => T.bind ((setV (fun g => T.bind ((argsC (fun _ => T.pure (.str "")) args0) g) fun xs => T.bind (needSize xs.length) fun _ => T.pure (.lst xs)) 1) g) fun o => thenO o (fun g => T.bind ((fun g => T.bind ((fun g => T.bind ((fun g => T.bind ((fun _ => T.pure (.str "abcd")) g) fun d => T.bind ((fun _ => T.pure none) g) fun i => T.bind ((fun g => T.bind ((fun g => getv g 0) g) fun d => T.bind (dAsI d) fun i => T.pure (some i)) g) fun j => dSl d i j) g) dItS) g) fun ds => forT (gN 2) (setV (fun g => T.bind ((fun g => getv g 1) g) fun x => T.bind ((dLc (fun g => T.bind ((fun g => getv g 1) g) dItL) [3] (gN 3) tY (fun g => T.bind ((fun g => getv g 3) g) fun x => T.bind ((fun g => getv g 2) g) fun y => dAdd x y)) g) fun y => dCat x y) 1) ds g) g) fun o => thenO o (fun g => T.bind ((fun g => T.bind ((argsC (fun g => T.bind ((argsC (fun g => getv g 1) args0) g) dSorted) args0) g) dTuple) g) fun d => T.pure (.rt d))))
theorem X_every_set : ∃ f : List D → T D, f = fun ds => runD (m_every_set) 4 ds := ⟨_, rfl⟩
noncomputable def F_every_set : List D → T D := Classical.choose X_every_set
theorem F_every_set_eq : F_every_set = fun ds => runD (m_every_set) 4 ds := Classical.choose_spec X_every_set
noncomputable def m_joins_of : MS := (fun g => T.bind ((fun g => T.bind ((argsC (fun g => T.bind ((dLc2 (fun g => T.bind ((fun g => getv g 0) g) dItT) [2, 3] (gN 2) tY (fun g => T.bind ((fun g => getv g 1) g) dItT) [3] (gN 3) tY (fun g => T.bind ((argsC (fun g => getv g 2) (argsC (fun g => getv g 3) args0)) g) fun ds => T.bind (dNeed (ds.length = 2)) fun _ => F_joined ds)) g) dSset) args0) g) dTuple) g) fun d => T.pure (.rt d))
theorem X_joins_of : ∃ f : List D → T D, f = fun ds => runD (m_joins_of) 4 ds := ⟨_, rfl⟩
noncomputable def F_joins_of : List D → T D := Classical.choose X_joins_of
theorem F_joins_of_eq : F_joins_of = fun ds => runD (m_joins_of) 4 ds := Classical.choose_spec X_joins_of
noncomputable def m_meets_of : MS := (fun g => T.bind ((fun g => T.bind ((argsC (fun g => T.bind ((dLc2 (fun g => T.bind ((fun g => getv g 0) g) dItT) [2, 3] (gN 2) tY (fun g => T.bind ((fun g => getv g 1) g) dItT) [3] (gN 3) tY (fun g => T.bind ((argsC (fun g => getv g 2) (argsC (fun g => getv g 3) args0)) g) fun ds => T.bind (dNeed (ds.length = 2)) fun _ => F_met ds)) g) dSset) args0) g) dTuple) g) fun d => T.pure (.rt d))
theorem X_meets_of : ∃ f : List D → T D, f = fun ds => runD (m_meets_of) 4 ds := ⟨_, rfl⟩
noncomputable def F_meets_of : List D → T D := Classical.choose X_meets_of
theorem F_meets_of_eq : F_meets_of = fun ds => runD (m_meets_of) 4 ds := Classical.choose_spec X_meets_of
noncomputable def m_differences_of : MS := (fun g => T.bind ((fun g => T.bind ((argsC (fun g => T.bind ((dLc2 (fun g => T.bind ((fun g => getv g 0) g) dItT) [2, 3] (gN 2) tY (fun g => T.bind ((fun g => getv g 1) g) dItT) [3] (gN 3) tY (fun g => T.bind ((argsC (fun g => getv g 2) (argsC (fun g => getv g 3) args0)) g) fun ds => T.bind (dNeed (ds.length = 2)) fun _ => F_less ds)) g) dSset) args0) g) dTuple) g) fun d => T.pure (.rt d))
theorem X_differences_of : ∃ f : List D → T D, f = fun ds => runD (m_differences_of) 4 ds := ⟨_, rfl⟩
noncomputable def F_differences_of : List D → T D := Classical.choose X_differences_of
theorem F_differences_of_eq : F_differences_of = fun ds => runD (m_differences_of) 4 ds := Classical.choose_spec X_differences_of
noncomputable def m_is_closed_down : MS := (fun g => T.bind ((fun g => T.bind ((argsC (dLc (fun g => T.bind ((fun g => T.bind ((argsC (fun _ => T.pure (.int 4)) args0) g) fun ds => T.bind (dNeed (ds.length = 1)) fun _ => F_every_set ds) g) dItT) [1] (gN 1) (fun g => T.bind ((fun g => T.bind ((argsC (dLc (fun g => T.bind ((fun g => getv g 0) g) dItT) [2] (gN 2) tY (fun g => T.bind ((argsC (fun g => getv g 1) (argsC (fun g => getv g 2) args0)) g) fun ds => T.bind (dNeed (ds.length = 2)) fun _ => F_is_in ds)) args0) g) dAny) g) dTru) (fun g => T.bind ((fun g => getv g 1) g) fun x => T.bind ((fun g => getv g 0) g) fun y => (dIn false) x y)) args0) g) dAll) g) fun d => T.pure (.rt d))
theorem X_is_closed_down : ∃ f : List D → T D, f = fun ds => runD (m_is_closed_down) 3 ds := ⟨_, rfl⟩
noncomputable def F_is_closed_down : List D → T D := Classical.choose X_is_closed_down
theorem F_is_closed_down_eq : F_is_closed_down = fun ds => runD (m_is_closed_down) 3 ds := Classical.choose_spec X_is_closed_down
noncomputable def m_need_letter : MS := (fun g => T.bind ((fun g => T.bind ((fun g => T.bind ((fun g => T.bind ((fun g => T.bind ((argsC (fun g => getv g 1) (argsC (fun _ => T.pure (.ty "str")) args0)) g) dIsi) g) dTru) g) fun k => T.pure (!k)) g) fun k => T.ite k (T.pure true) ((fun g => T.bind ((fun g => T.bind ((fun g => T.bind ((fun g => T.bind ((argsC (fun g => getv g 1) args0) g) dLen) g) fun x => T.bind ((fun _ => T.pure (.int 1)) g) fun y => dNe x y) g) dAsB) g) fun k => T.ite k (T.pure true) ((fun g => T.bind ((fun g => T.bind ((fun g => getv g 1) g) fun x => T.bind ((fun g => T.bind ((fun _ => T.pure (.str "abcd")) g) fun d => T.bind ((fun _ => T.pure none) g) fun i => T.bind ((fun g => T.bind ((fun g => getv g 0) g) fun d => T.bind (dAsI d) fun i => T.pure (some i)) g) fun j => dSl d i j) g) fun y => (dIn true) x y) g) dAsB) g)) g)) g) fun k => T.ite k ((fun _ => T.raise ⟨"InvalidLetter", []⟩) g) ((fun g => T.pure (.nx g)) g))
theorem X_need_letter : ∃ f : List D → T D, f = fun ds => runD (m_need_letter) 2 ds := ⟨_, rfl⟩
noncomputable def F_need_letter : List D → T D := Classical.choose X_need_letter
theorem F_need_letter_eq : F_need_letter = fun ds => runD (m_need_letter) 2 ds := Classical.choose_spec X_need_letter
noncomputable def m_squeezed_by : MS := (fun g => T.bind ((setO (fun g => T.bind (args0 g) fun xs => T.bind (needSize xs.length) fun _ => T.pure (.lst xs)) 2) g) fun o => thenO o (fun g => T.bind ((fun g => T.bind ((fun g => T.bind ((fun g => getv g 0) g) dItT) g) fun ds => forT (gN 3) (fun g => T.bind ((setV (fun g => T.bind ((argsC (fun g => getv g 3) (argsC (fun g => getv g 1) args0)) g) fun ds => T.bind (dNeed (ds.length = 2)) fun _ => F_less ds) 4) g) fun o => thenO o (appO 2 (fun g => T.bind ((fun g => T.bind ((fun g => T.bind ((fun g => getv g 4) g) fun x => T.bind ((fun g => getv g 0) g) fun y => (dIn false) x y) g) dAsB) g) fun k => T.ite k ((fun g => getv g 3) g) ((fun g => getv g 4) g)))) ds g) g) fun o => thenO o (fun g => T.bind ((fun g => T.bind ((argsC (fun g => T.bind ((argsC (fun g => getb g 2) args0) g) dSorted) args0) g) dTuple) g) fun d => T.pure (.rt d))))
theorem X_squeezed_by : ∃ f : List D → T D, f = fun ds => runD (m_squeezed_by) 5 ds := ⟨_, rfl⟩
noncomputable def F_squeezed_by : List D → T D := Classical.choose X_squeezed_by
theorem F_squeezed_by_eq : F_squeezed_by = fun ds => runD (m_squeezed_by) 5 ds := Classical.choose_spec X_squeezed_by
noncomputable def m_picks : MS := (fun g => T.bind ((setV (dLc (fun g => T.bind ((fun g => getv g 0) g) dItT) [3] (gN 3) tY (fun g => T.bind ((argsC (fun g => getv g 1) (argsC (fun g => getv g 3) args0)) g) fun ds => T.bind (dNeed (ds.length = 2)) fun _ => F_met ds)) 2) g) fun o => thenO o (fun g => T.bind ((fun g => T.bind ((argsC (dLc (fun g => T.bind ((fun g => T.bind ((argsC (fun _ => T.pure (.int 4)) args0) g) fun ds => T.bind (dNeed (ds.length = 1)) fun _ => F_every_set ds) g) dItT) [4] (gN 4) (fun g => T.bind ((fun g => T.bind ((argsC (fun g => getv g 4) (argsC (fun g => getv g 1) args0)) g) fun ds => T.bind (dNeed (ds.length = 2)) fun _ => F_is_in ds) g) dTru) (fun g => T.bind ((fun g => getv g 4) g) fun x => T.bind ((fun g => getv g 2) g) fun y => (dIn false) x y)) args0) g) dAll) g) fun d => T.pure (.rt d)))
theorem X_picks : ∃ f : List D → T D, f = fun ds => runD (m_picks) 5 ds := ⟨_, rfl⟩
noncomputable def F_picks : List D → T D := Classical.choose X_picks
theorem F_picks_eq : F_picks = fun ds => runD (m_picks) 5 ds := Classical.choose_spec X_picks
noncomputable def m_word_of : MS := (fun g => T.bind ((fun g => T.bind ((fun g => T.bind ((fun g => T.bind ((fun g => getv g 0) g) fun x => T.bind ((fun _ => T.pure (.str "")) g) fun y => dNe x y) g) dAsB) g) fun k => T.ite k ((fun g => getv g 0) g) ((fun _ => T.pure (.str "-")) g)) g) fun d => T.pure (.rt d))
theorem X_word_of : ∃ f : List D → T D, f = fun ds => runD (m_word_of) 1 ds := ⟨_, rfl⟩
noncomputable def F_word_of : List D → T D := Classical.choose X_word_of
theorem F_word_of_eq : F_word_of = fun ds => runD (m_word_of) 1 ds := Classical.choose_spec X_word_of
noncomputable def m_Bench_len : MS := (fun g => T.bind ((fun g => T.bind ((argsC (fun g => T.bind ((fun g => getv g 0) g) (dFld "Bench" "past")) args0) g) dLenM) g) fun d => T.pure (.rt d))
theorem X_Bench_len : ∃ f : List D → T D, f = fun ds => runD m_Bench_len 1 ds := ⟨_, rfl⟩
noncomputable def F_Bench_len : List D → T D := Classical.choose X_Bench_len
theorem F_Bench_len_eq : F_Bench_len = fun ds => runD m_Bench_len 1 ds := Classical.choose_spec X_Bench_len
noncomputable def m_Bench_getitem : MS := (fun g => T.bind ((fun g => T.bind ((fun g => T.bind ((fun g => T.bind ((fun g => T.bind ((argsC (fun g => getv g 1) (argsC (fun _ => T.pure (.int 0)) (argsC (fun g => T.bind ((fun g => T.bind ((argsC (fun g => T.bind ((fun g => getv g 0) g) (dFld "Bench" "now")) args0) g) dLen) g) fun x => T.bind ((fun _ => T.pure (.int 1)) g) fun y => dSub x y) args0))) g) fun ds => T.bind (dNeed (ds.length = 3)) fun _ => F_is_number ds) g) dTru) g) fun k => T.pure (!k)) g) fun k => T.ite k ((fun _ => T.raise ⟨"InvalidNumber", []⟩) g) ((fun g => T.pure (.nx g)) g)) g) fun o => thenO o (fun g => T.bind ((fun g => T.bind ((fun g => T.bind ((fun g => getv g 0) g) (dFld "Bench" "now")) g) fun x => T.bind ((fun g => getv g 1) g) fun y => dIx x y) g) fun d => T.pure (.rt d)))
theorem X_Bench_getitem : ∃ f : List D → T D, f = fun ds => runD m_Bench_getitem 2 ds := ⟨_, rfl⟩
noncomputable def F_Bench_getitem : List D → T D := Classical.choose X_Bench_getitem
theorem F_Bench_getitem_eq : F_Bench_getitem = fun ds => runD m_Bench_getitem 2 ds := Classical.choose_spec X_Bench_getitem
noncomputable def m__law_source : MS := (fun g => T.bind ((setV (fun _ => T.pure (.int 0)) 2) g) fun o => thenO o (fun g => T.bind ((fun g => T.bind ((fun g => T.bind ((fun g => T.bind ((fun g => getv g 1) g) fun x => T.bind ((fun g => T.bind ((argsC (fun g => getv g 0) args0) g) dLen) g) fun y => dLt x y) g) dAsB) g) fun k => T.ite k ((setV (fun g => T.bind ((argsC (fun g => T.bind ((argsC (fun g => T.bind ((fun g => getv g 0) g) fun x => T.bind ((fun g => getv g 1) g) fun y => dIx x y) args0) g) dInt1) args0) g) dAbs) 2) g) ((fun g => T.pure (.nx g)) g)) g) fun o => thenO o (fun g => T.bind ((fun g => T.bind ((fun g => T.bind ((fun g => T.bind ((fun g => getv g 2) g) fun x => T.bind ((fun g => T.bind ((fun _ => T.pure (.int 10)) g) fun x => T.bind ((fun _ => T.pure (.int 18)) g) fun y => dPow x y) g) fun y => dLt x y) g) dAsB) g) fun k => T.ite k ((fun g => T.bind ((fun g => T.bind ((argsC (fun _ => T.pure (.int 0)) (argsC (fun g => T.bind ((fun _ => T.pure (.int 1)) g) fun x => T.bind ((fun g => T.bind ((fun g => T.bind ((argsC (fun g => T.bind ((fun g => T.bind ((fun g => getv g 2) g) fun x => T.bind ((fun _ => T.pure (.int 7919)) g) fun y => dMul x y) g) fun x => T.bind ((fun g => T.bind ((fun _ => T.pure (.int 104729)) g) fun x => T.bind ((fun g => getv g 1) g) fun y => dMul x y) g) fun y => dAdd x y) args0) g) dInt1) g) fun x => T.bind ((fun _ => T.pure (.int 2147483646)) g) fun y => dMod x y) g) fun y => dAdd x y) args0)) g) fun xs => T.bind (needSize xs.length) fun _ => T.pure (.lst xs)) g) srcD) g) ((fun g => T.pure (.nx g)) g)) g) fun o => thenO o (fun g => T.bind ((fun g => T.bind ((argsC (fun g => getv g 2) (argsC (fun g => T.bind ((fun _ => T.pure (.int 1)) g) fun x => T.bind ((fun g => T.bind ((fun g => T.bind ((argsC (fun g => T.bind ((fun g => getv g 2) g) fun x => T.bind ((fun g => getv g 1) g) fun y => dAdd x y) args0) g) dInt1) g) fun x => T.bind ((fun _ => T.pure (.int 2147483646)) g) fun y => dMod x y) g) fun y => dAdd x y) args0)) g) fun xs => T.bind (needSize xs.length) fun _ => T.pure (.lst xs)) g) srcD))))
theorem X__law_source : ∃ f : List D → T D, f = fun ds => runD (m__law_source) 3 ds := ⟨_, rfl⟩
noncomputable def F__law_source : List D → T D := Classical.choose X__law_source
theorem F__law_source_eq : F__law_source = fun ds => runD (m__law_source) 3 ds := Classical.choose_spec X__law_source
noncomputable def m__law_draw : MS := (fun g => T.bind ((fun g => T.bind ((fun g => T.bind ((fun g => T.bind ((fun g => T.bind ((fun g => getv g 0) g) fun x => T.bind ((fun _ => T.pure (.int 0)) g) fun y => dIx x y) g) fun x => T.bind ((fun _ => T.pure (.int 0)) g) fun y => dGt x y) g) dAsB) g) fun k => T.ite k ((fun g => T.bind ((setV (fun g => T.bind ((fun g => T.bind ((argsC (fun g => T.bind ((fun g => getv g 0) g) fun x => T.bind ((fun _ => T.pure (.int 0)) g) fun y => dIx x y) args0) g) dInt1) g) fun x => T.bind ((fun g => getv g 1) g) fun y => dMod x y) 2) g) fun o => thenO o (fun g => T.bind ((fun g => T.bind ((fun g => T.bind ((fun g => T.bind ((fun g => getv g 0) g) fun x => T.bind ((fun _ => T.pure (.int 0)) g) fun y => dIx x y) g) fun x => T.bind ((fun g => getv g 1) g) fun y => dFdiv x y) g) fun d => T.bind ((fun g => getv g 0) g) fun x => T.bind ((fun _ => T.pure (.int 0)) g) fun y => dPut x y d g) g) fun o => thenO o (fun g => T.bind ((fun g => getv g 2) g) fun d => T.pure (.rt d)))) g) ((fun g => T.pure (.nx g)) g)) g) fun o => thenO o (fun g => T.bind ((fun g => T.bind ((fun g => T.bind ((fun g => T.bind ((argsC (fun g => T.bind ((fun g => T.bind ((fun g => getv g 0) g) fun x => T.bind ((fun _ => T.pure (.int 1)) g) fun y => dIx x y) g) fun x => T.bind ((fun _ => T.pure (.int 48271)) g) fun y => dMul x y) args0) g) dInt1) g) fun x => T.bind ((fun _ => T.pure (.int 2147483647)) g) fun y => dMod x y) g) fun d => T.bind ((fun g => getv g 0) g) fun x => T.bind ((fun _ => T.pure (.int 1)) g) fun y => dPut x y d g) g) fun o => thenO o (fun g => T.bind ((fun g => T.bind ((fun g => T.bind ((argsC (fun g => T.bind ((fun g => T.bind ((fun g => T.bind ((argsC (fun g => T.bind ((fun g => T.bind ((fun g => getv g 0) g) fun x => T.bind ((fun _ => T.pure (.int 1)) g) fun y => dIx x y) g) fun x => T.bind ((fun g => T.bind ((fun g => getv g 0) g) fun x => T.bind ((fun _ => T.pure (.int 1)) g) fun y => dIx x y) g) fun y => dMul x y) args0) g) dInt1) g) fun x => T.bind ((fun _ => T.pure (.int 2147483629)) g) fun y => dMod x y) g) fun x => T.bind ((fun _ => T.pure (.int 64)) g) fun y => dFdiv x y) args0) g) dInt1) g) fun x => T.bind ((fun g => getv g 1) g) fun y => dMod x y) g) fun d => T.pure (.rt d))))
theorem X__law_draw : ∃ f : List D → T D, f = fun ds => runD (m__law_draw) 3 ds := ⟨_, rfl⟩
noncomputable def F__law_draw : List D → T D := Classical.choose X__law_draw
theorem F__law_draw_eq : F__law_draw = fun ds => runD (m__law_draw) 3 ds := Classical.choose_spec X__law_draw
noncomputable def m__law_of : MS := (fun g => T.bind ((fun g => T.bind ((fun g => getv g 1) g) fun x => T.bind ((fun g => T.bind ((argsC (fun g => getv g 0) (argsC (fun g => T.bind ((argsC (fun g => getv g 1) args0) g) dLen) args0)) g) fun ds => T.bind (dNeed (ds.length = 2)) fun _ => F__law_draw ds) g) fun y => dIx x y) g) fun d => T.pure (.rt d))
theorem X__law_of : ∃ f : List D → T D, f = fun ds => runD (m__law_of) 2 ds := ⟨_, rfl⟩
noncomputable def F__law_of : List D → T D := Classical.choose X__law_of
theorem F__law_of_eq : F__law_of = fun ds => runD (m__law_of) 2 ds := Classical.choose_spec X__law_of
noncomputable def m_Bench_contains : MS := (fun g => T.bind ((fun g => T.bind ((fun g => T.bind ((argsC (fun g => getv g 1) (argsC (fun _ => T.pure (.ty "str")) args0)) g) dIsi) g) fun x => T.bind (dAsB x) fun k => T.ite k ((fun g => T.bind ((fun g => getv g 1) g) fun x => T.bind ((fun g => T.bind ((fun g => getv g 0) g) (dFld "Bench" "now")) g) fun y => (dIn false) x y) g) (T.pure (.bl false))) g) fun d => T.pure (.rt d))
theorem X_Bench_contains : ∃ f : List D → T D, f = fun ds => runD m_Bench_contains 2 ds := ⟨_, rfl⟩
noncomputable def F_Bench_contains : List D → T D := Classical.choose X_Bench_contains
theorem F_Bench_contains_eq : F_Bench_contains = fun ds => runD m_Bench_contains 2 ds := Classical.choose_spec X_Bench_contains
noncomputable def m__law_join : MS := (fun g => T.bind ((fun g => T.bind ((fun _ => T.pure (.str "")) g) fun x => T.bind (dAsS x) fun s => T.bind ((dLc (fun g => T.bind ((fun _ => T.pure (.str "abcd")) g) dItS) [2] (gN 2) (fun g => T.bind ((fun g => T.bind ((fun g => getv g 2) g) fun x => T.bind ((fun g => T.bind ((fun g => getv g 0) g) fun x => T.bind ((fun g => getv g 1) g) fun y => dAdd x y) g) fun y => (dIn false) x y) g) dAsB) (fun g => getv g 2)) g) fun y => dJoin s y) g) fun d => T.pure (.rt d))
theorem X__law_join : ∃ f : List D → T D, f = fun ds => runD (m__law_join) 3 ds := ⟨_, rfl⟩
noncomputable def F__law_join : List D → T D := Classical.choose X__law_join
theorem F__law_join_eq : F__law_join = fun ds => runD (m__law_join) 3 ds := Classical.choose_spec X__law_join
noncomputable def m__law_meet : MS := (fun g => T.bind ((fun g => T.bind ((fun _ => T.pure (.str "")) g) fun x => T.bind (dAsS x) fun s => T.bind ((dLc (fun g => T.bind ((fun g => getv g 0) g) dItS) [2] (gN 2) (fun g => T.bind ((fun g => T.bind ((fun g => getv g 2) g) fun x => T.bind ((fun g => getv g 1) g) fun y => (dIn false) x y) g) dAsB) (fun g => getv g 2)) g) fun y => dJoin s y) g) fun d => T.pure (.rt d))
theorem X__law_meet : ∃ f : List D → T D, f = fun ds => runD (m__law_meet) 3 ds := ⟨_, rfl⟩
noncomputable def F__law_meet : List D → T D := Classical.choose X__law_meet
theorem F__law_meet_eq : F__law_meet = fun ds => runD (m__law_meet) 3 ds := Classical.choose_spec X__law_meet
noncomputable def m__law_less : MS := (fun g => T.bind ((fun g => T.bind ((fun _ => T.pure (.str "")) g) fun x => T.bind (dAsS x) fun s => T.bind ((dLc (fun g => T.bind ((fun g => getv g 0) g) dItS) [2] (gN 2) (fun g => T.bind ((fun g => T.bind ((fun g => getv g 2) g) fun x => T.bind ((fun g => getv g 1) g) fun y => (dIn true) x y) g) dAsB) (fun g => getv g 2)) g) fun y => dJoin s y) g) fun d => T.pure (.rt d))
theorem X__law_less : ∃ f : List D → T D, f = fun ds => runD (m__law_less) 3 ds := ⟨_, rfl⟩
noncomputable def F__law_less : List D → T D := Classical.choose X__law_less
theorem F__law_less_eq : F__law_less = fun ds => runD (m__law_less) 3 ds := Classical.choose_spec X__law_less
noncomputable def m__law_sets : MS := (fun g => T.bind ((setV (fun g => T.bind ((argsC (fun _ => T.pure (.str "")) args0) g) fun xs => T.bind (needSize xs.length) fun _ => T.pure (.lst xs)) 1) g) fun o => thenO o (fun g => T.bind ((fun g => T.bind ((fun g => T.bind ((fun g => T.bind ((fun _ => T.pure (.str "abcd")) g) fun d => T.bind ((fun _ => T.pure none) g) fun i => T.bind ((fun g => T.bind ((fun g => getv g 0) g) fun d => T.bind (dAsI d) fun i => T.pure (some i)) g) fun j => dSl d i j) g) dItS) g) fun ds => forT (gN 2) (setV (fun g => T.bind ((fun g => getv g 1) g) fun x => T.bind ((dLc (fun g => T.bind ((fun g => getv g 1) g) dItL) [3] (gN 3) tY (fun g => T.bind ((fun g => getv g 3) g) fun x => T.bind ((fun g => getv g 2) g) fun y => dAdd x y)) g) fun y => dCat x y) 1) ds g) g) fun o => thenO o (fun g => T.bind ((fun g => T.bind ((argsC (fun g => getv g 1) args0) g) dSorted) g) fun d => T.pure (.rt d))))
theorem X__law_sets : ∃ f : List D → T D, f = fun ds => runD (m__law_sets) 4 ds := ⟨_, rfl⟩
noncomputable def F__law_sets : List D → T D := Classical.choose X__law_sets
theorem F__law_sets_eq : F__law_sets = fun ds => runD (m__law_sets) 4 ds := Classical.choose_spec X__law_sets
noncomputable def m_Bench_init : MS := (fun g => T.bind ((fun g => T.bind ((fun g => T.bind ((argsC (fun g => getv g 1) (argsC (fun _ => T.pure (.int 4)) args0)) g) fun ds => T.bind (dNeed (ds.length = 2)) fun _ => F_need_letters ds) g) fun _ => T.pure (.nx g)) g) fun o => thenO o (fun g => T.bind ((fun g => T.bind ((fun g => getv g 1) g) fun d => T.bind ((fun g => getv g 0) g) fun x => dSetF "Bench" "base" x d g) g) fun o => thenO o (fun g => T.bind ((fun g => T.bind ((fun g => T.bind (args0 g) fun xs => T.bind (needSize xs.length) fun _ => T.pure (.tup xs)) g) fun d => T.bind ((fun g => getv g 0) g) fun x => dSetF "Bench" "now" x d g) g) fun o => thenO o (fun g => T.bind ((fun g => T.bind ((fun g => T.bind (args0 g) fun xs => T.bind (needSize xs.length) fun _ => T.pure (.lst xs)) g) newL) g) fun d => T.bind ((fun g => getv g 0) g) fun x => dSetF "Bench" "past" x d g))))
theorem X_Bench_init : ∃ f : List D → T D, f = fun ds => runD m_Bench_init 2 ds := ⟨_, rfl⟩
noncomputable def F_Bench_init : List D → T D := Classical.choose X_Bench_init
theorem F_Bench_init_eq : F_Bench_init = fun ds => runD m_Bench_init 2 ds := Classical.choose_spec X_Bench_init
noncomputable def m_Bench_eq : MS := (fun g => T.bind ((fun g => T.bind ((fun g => T.bind ((argsC (fun g => getv g 1) (argsC (fun _ => T.pure (D.glo "Bench")) args0)) g) (dIsiC "Bench")) g) fun x => T.bind (dAsB x) fun k => T.ite k ((fun g => T.bind ((fun g => T.bind ((argsC (fun g => T.bind ((fun g => getv g 0) g) (dFld "Bench" "base")) (argsC (fun g => T.bind ((fun g => getv g 0) g) (dFld "Bench" "now")) args0)) g) fun xs => T.bind (needSize xs.length) fun _ => T.pure (.tup xs)) g) fun x => T.bind ((fun g => T.bind ((argsC (fun g => T.bind ((fun g => getv g 1) g) (dFld "Bench" "base")) (argsC (fun g => T.bind ((fun g => getv g 1) g) (dFld "Bench" "now")) args0)) g) fun xs => T.bind (needSize xs.length) fun _ => T.pure (.tup xs)) g) fun y => dEq x y) g) (T.pure (.bl false))) g) fun d => T.pure (.rt d))
theorem X_Bench_eq : ∃ f : List D → T D, f = fun ds => runD m_Bench_eq 2 ds := ⟨_, rfl⟩
noncomputable def F_Bench_eq : List D → T D := Classical.choose X_Bench_eq
theorem F_Bench_eq_eq : F_Bench_eq = fun ds => runD m_Bench_eq 2 ds := Classical.choose_spec X_Bench_eq
noncomputable def m__law_within : MS := (fun g => T.bind ((fun g => T.bind ((dLc (fun g => T.bind ((fun g => getv g 0) g) dItS) [2] (gN 2) (fun g => T.bind ((fun g => T.bind ((fun g => getv g 2) g) fun x => T.bind ((fun g => getv g 1) g) fun y => (dIn true) x y) g) dAsB) (fun g => getv g 2)) g) fun x => T.bind ((fun g => T.bind (args0 g) fun xs => T.bind (needSize xs.length) fun _ => T.pure (.lst xs)) g) fun y => dEq x y) g) fun d => T.pure (.rt d))
theorem X__law_within : ∃ f : List D → T D, f = fun ds => runD (m__law_within) 3 ds := ⟨_, rfl⟩
noncomputable def F__law_within : List D → T D := Classical.choose X__law_within
theorem F__law_within_eq : F__law_within = fun ds => runD (m__law_within) 3 ds := Classical.choose_spec X__law_within
noncomputable def m__law_made : MS := (fun g => T.bind ((setO (fun g => T.bind (args0 g) fun xs => T.bind (needSize xs.length) fun _ => T.pure (.lst xs)) 3) g) fun o => thenO o (fun g => T.bind ((fun g => T.bind ((fun g => T.bind ((fun g => getv g 0) g) dItT) g) fun ds => forT (gN 4) (fun g => T.bind ((fun g => T.bind ((fun g => getv g 1) g) dItT) g) fun ds => forT (gN 5) (fun g => T.bind ((fun g => T.bind ((fun g => T.bind ((fun g => getv g 2) g) fun x => T.bind ((fun _ => T.pure (.str "joins")) g) fun y => dEq x y) g) dAsB) g) fun k => T.ite k ((appO 3 (fun g => T.bind ((argsC (fun g => getv g 4) (argsC (fun g => getv g 5) args0)) g) fun ds => T.bind (dNeed (ds.length = 2)) fun _ => F__law_join ds)) g) ((fun g => T.bind ((fun g => T.bind ((fun g => T.bind ((fun g => getv g 2) g) fun x => T.bind ((fun _ => T.pure (.str "meets")) g) fun y => dEq x y) g) dAsB) g) fun k => T.ite k ((appO 3 (fun g => T.bind ((argsC (fun g => getv g 4) (argsC (fun g => getv g 5) args0)) g) fun ds => T.bind (dNeed (ds.length = 2)) fun _ => F__law_meet ds)) g) ((appO 3 (fun g => T.bind ((argsC (fun g => getv g 4) (argsC (fun g => getv g 5) args0)) g) fun ds => T.bind (dNeed (ds.length = 2)) fun _ => F__law_less ds)) g)) g)) ds g) ds g) g) fun o => thenO o (fun g => T.bind ((fun g => T.bind ((argsC (fun g => T.bind ((fun g => getb g 3) g) dSset) args0) g) dTuple) g) fun d => T.pure (.rt d))))
theorem X__law_made : ∃ f : List D → T D, f = fun ds => runD (m__law_made) 6 ds := ⟨_, rfl⟩
noncomputable def F__law_made : List D → T D := Classical.choose X__law_made
theorem F__law_made_eq : F__law_made = fun ds => runD (m__law_made) 6 ds := Classical.choose_spec X__law_made
noncomputable def m__law_is_down : MS := (fun g => T.bind ((fun g => T.bind ((fun g => T.bind ((fun g => getv g 0) g) dItT) g) fun ds => forT (gN 1) (fun g => T.bind ((fun g => T.bind ((fun g => getv g 1) g) dItS) g) fun ds => forT (gN 2) (fun g => T.bind ((fun g => T.bind ((fun g => T.bind ((fun g => T.bind ((argsC (fun g => getv g 1) (argsC (fun g => getv g 2) args0)) g) fun ds => T.bind (dNeed (ds.length = 2)) fun _ => F__law_less ds) g) fun x => T.bind ((fun g => getv g 0) g) fun y => (dIn true) x y) g) dAsB) g) fun k => T.ite k ((fun g => T.bind ((fun _ => T.pure (.bl false)) g) fun d => T.pure (.rt d)) g) ((fun g => T.pure (.nx g)) g)) ds g) ds g) g) fun o => thenO o (fun g => T.bind ((fun _ => T.pure (.bl true)) g) fun d => T.pure (.rt d)))
theorem X__law_is_down : ∃ f : List D → T D, f = fun ds => runD (m__law_is_down) 3 ds := ⟨_, rfl⟩
noncomputable def F__law_is_down : List D → T D := Classical.choose X__law_is_down
theorem F__law_is_down_eq : F__law_is_down = fun ds => runD (m__law_is_down) 3 ds := Classical.choose_spec X__law_is_down
noncomputable def m__law_picks : MS := (fun g => T.bind ((setV (dLc (fun g => T.bind ((fun g => getv g 0) g) dItT) [4] (gN 4) tY (fun g => T.bind ((argsC (fun g => getv g 1) (argsC (fun g => getv g 4) args0)) g) fun ds => T.bind (dNeed (ds.length = 2)) fun _ => F__law_meet ds)) 2) g) fun o => thenO o (fun g => T.bind ((setV (dLc (fun g => T.bind ((fun g => T.bind ((argsC (fun _ => T.pure (.int 4)) args0) g) fun ds => T.bind (dNeed (ds.length = 1)) fun _ => F__law_sets ds) g) dItL) [5] (gN 5) (fun g => T.bind ((fun g => T.bind ((argsC (fun g => getv g 5) (argsC (fun g => getv g 1) args0)) g) fun ds => T.bind (dNeed (ds.length = 2)) fun _ => F__law_within ds) g) dTru) (fun g => getv g 5)) 3) g) fun o => thenO o (fun g => T.bind ((fun g => T.bind ((dLc (fun g => T.bind ((fun g => getv g 3) g) dItL) [5] (gN 5) (fun g => T.bind ((fun g => T.bind ((fun g => getv g 5) g) fun x => T.bind ((fun g => getv g 2) g) fun y => (dIn true) x y) g) dAsB) (fun g => getv g 5)) g) fun x => T.bind ((fun g => T.bind (args0 g) fun xs => T.bind (needSize xs.length) fun _ => T.pure (.lst xs)) g) fun y => dEq x y) g) fun d => T.pure (.rt d))))
theorem X__law_picks : ∃ f : List D → T D, f = fun ds => runD (m__law_picks) 6 ds := ⟨_, rfl⟩
noncomputable def F__law_picks : List D → T D := Classical.choose X__law_picks
theorem F__law_picks_eq : F__law_picks = fun ds => runD (m__law_picks) 6 ds := Classical.choose_spec X__law_picks
noncomputable def m_Bench_letters : MS := (fun g => T.bind ((fun g => T.bind ((fun g => getv g 0) g) (dFld "Bench" "base")) g) fun d => T.pure (.rt d))
theorem X_Bench_letters : ∃ f : List D → T D, f = fun ds => runD m_Bench_letters 1 ds := ⟨_, rfl⟩
noncomputable def F_Bench_letters : List D → T D := Classical.choose X_Bench_letters
theorem F_Bench_letters_eq : F_Bench_letters = fun ds => runD m_Bench_letters 1 ds := Classical.choose_spec X_Bench_letters
noncomputable def m_Bench_family : MS := (fun g => T.bind ((fun g => T.bind ((fun g => getv g 0) g) (dFld "Bench" "now")) g) fun d => T.pure (.rt d))
theorem X_Bench_family : ∃ f : List D → T D, f = fun ds => runD m_Bench_family 1 ds := ⟨_, rfl⟩
noncomputable def F_Bench_family : List D → T D := Classical.choose X_Bench_family
theorem F_Bench_family_eq : F_Bench_family = fun ds => runD m_Bench_family 1 ds := Classical.choose_spec X_Bench_family
noncomputable def m_Bench_counts : MS := (fun g => T.bind ((setV (fun g => T.bind ((fun g => getv g 0) g) (dFld "Bench" "now")) 1) g) fun o => thenO o (fun g => T.bind ((fun g => T.bind ((argsC (fun g => T.bind ((argsC (fun g => T.bind ((argsC (fun g => getv g 1) (argsC (fun g => getv g 1) args0)) g) fun ds => T.bind (dNeed (ds.length = 2)) fun _ => F_joins_of ds) args0) g) dLen) (argsC (fun g => T.bind ((argsC (fun g => T.bind ((argsC (fun g => getv g 1) (argsC (fun g => getv g 1) args0)) g) fun ds => T.bind (dNeed (ds.length = 2)) fun _ => F_meets_of ds) args0) g) dLen) (argsC (fun g => T.bind ((argsC (fun g => T.bind ((argsC (fun g => getv g 1) (argsC (fun g => getv g 1) args0)) g) fun ds => T.bind (dNeed (ds.length = 2)) fun _ => F_differences_of ds) args0) g) dLen) args0))) g) fun xs => T.bind (needSize xs.length) fun _ => T.pure (.tup xs)) g) fun d => T.pure (.rt d)))
theorem X_Bench_counts : ∃ f : List D → T D, f = fun ds => runD m_Bench_counts 2 ds := ⟨_, rfl⟩
noncomputable def F_Bench_counts : List D → T D := Classical.choose X_Bench_counts
theorem F_Bench_counts_eq : F_Bench_counts = fun ds => runD m_Bench_counts 2 ds := Classical.choose_spec X_Bench_counts
noncomputable def m_Bench_bool : MS := (fun g => T.bind ((fun g => T.bind ((argsC (fun g => T.bind ((argsC (fun g => T.bind ((fun g => getv g 0) g) (dFld "Bench" "now")) args0) g) fun ds => T.bind (dNeed (ds.length = 1)) fun _ => F_is_closed_down ds) args0) g) dBool1) g) fun d => T.pure (.rt d))
theorem X_Bench_bool : ∃ f : List D → T D, f = fun ds => runD m_Bench_bool 1 ds := ⟨_, rfl⟩
noncomputable def F_Bench_bool : List D → T D := Classical.choose X_Bench_bool
theorem F_Bench_bool_eq : F_Bench_bool = fun ds => runD m_Bench_bool 1 ds := Classical.choose_spec X_Bench_bool
noncomputable def m_Bench_lines : MGn := (fun g => T.bind ((setV (fun g => T.bind ((fun g => getv g 0) g) (dFld "Bench" "now")) 1) g) fun o => nxO o (fun g => T.bind ((fun g => T.bind ((fun g => getv g 1) g) dItT) g) fun ds => T.bind (dNeed (ds.length ≤ 1000)) fun _ => yT (gN 2) (jD [(fun g => T.bind ((fun g => T.bind ((argsC (fun g => getv g 2) args0) g) fun ds => T.bind (dNeed (ds.length = 1)) fun _ => F_word_of ds) g) fmtD), (fun _ => T.pure (.str " ")), (fun g => T.bind ((fun g => T.bind ((fun g => T.bind ((fun g => T.bind ((argsC (fun g => getv g 1) (argsC (fun g => getv g 2) args0)) g) fun ds => T.bind (dNeed (ds.length = 2)) fun _ => F_picks ds) g) dTru) g) fun k => T.ite k ((fun _ => T.pure (.str "whole")) g) ((fun _ => T.pure (.str "part")) g)) g) fmtD)] Str.empty) ds g))
theorem X_Bench_lines : ∃ f : List D → T (List D), f = fun ds => m_Bench_lines (startG 3 ds) := ⟨_, rfl⟩
noncomputable def F_Bench_lines : List D → T (List D) := Classical.choose X_Bench_lines
theorem F_Bench_lines_eq : F_Bench_lines = fun ds => m_Bench_lines (startG 3 ds) := Classical.choose_spec X_Bench_lines
noncomputable def m__law_bench_shows : MS := (fun g => T.bind ((fun g => T.bind ((fun g => T.bind ((fun g => T.bind ((fun g => T.bind ((fun g => T.bind ((fun g => getv g 0) g) (dProp "Bench" F_Bench_letters)) g) fun x => T.bind ((fun g => getv g 1) g) fun y => dNe x y) g) dAsB) g) fun k => T.ite k (T.pure true) ((fun g => T.bind ((fun g => T.bind ((fun g => T.bind ((fun g => T.bind ((fun g => getv g 0) g) (dProp "Bench" F_Bench_family)) g) fun x => T.bind ((fun g => getv g 2) g) fun y => dNe x y) g) dAsB) g) fun k => T.ite k (T.pure true) ((fun g => T.bind ((fun g => T.bind ((fun g => T.bind ((fun g => getv g 0) g) fun d => T.bind (callI "Bench" (needN 1 F_Bench_len) d []) natD) g) fun x => T.bind ((fun g => getv g 3) g) fun y => dNe x y) g) dAsB) g)) g)) g) fun k => T.ite k ((fun g => T.bind ((fun _ => T.pure (.bl false)) g) fun d => T.pure (.rt d)) g) ((fun g => T.pure (.nx g)) g)) g) fun o => thenO o (fun g => T.bind ((setV (fun g => T.bind ((argsC (fun g => T.bind ((argsC (fun g => T.bind ((argsC (fun g => getv g 2) (argsC (fun g => getv g 2) (argsC (fun _ => T.pure (.str "joins")) args0))) g) fun ds => T.bind (dNeed (ds.length = 3)) fun _ => F__law_made ds) args0) g) dLen) (argsC (fun g => T.bind ((argsC (fun g => T.bind ((argsC (fun g => getv g 2) (argsC (fun g => getv g 2) (argsC (fun _ => T.pure (.str "meets")) args0))) g) fun ds => T.bind (dNeed (ds.length = 3)) fun _ => F__law_made ds) args0) g) dLen) args0)) g) fun xs => T.bind (needSize xs.length) fun _ => T.pure (.tup xs)) 4) g) fun o => thenO o (fun g => T.bind ((setV (fun g => T.bind ((fun g => getv g 4) g) fun x => T.bind ((fun g => T.bind ((argsC (fun g => T.bind ((argsC (fun g => T.bind ((argsC (fun g => getv g 2) (argsC (fun g => getv g 2) (argsC (fun _ => T.pure (.str "less")) args0))) g) fun ds => T.bind (dNeed (ds.length = 3)) fun _ => F__law_made ds) args0) g) dLen) args0) g) fun xs => T.bind (needSize xs.length) fun _ => T.pure (.tup xs)) g) fun y => dAdd x y) 4) g) fun o => thenO o (fun g => T.bind ((fun g => T.bind ((fun g => T.bind ((fun g => T.bind ((fun g => T.bind ((fun g => T.bind ((fun g => getv g 0) g) (dProp "Bench" F_Bench_counts)) g) fun x => T.bind ((fun g => getv g 4) g) fun y => dNe x y) g) dAsB) g) fun k => T.ite k (T.pure true) ((fun g => T.bind ((fun g => T.bind ((fun g => T.bind ((fun g => getv g 0) g) fun d => T.bind (callI "Bench" (needN 1 F_Bench_bool) d []) (blD false)) g) fun x => T.bind ((fun g => T.bind ((argsC (fun g => getv g 2) args0) g) fun ds => T.bind (dNeed (ds.length = 1)) fun _ => F__law_is_down ds) g) fun y => dNe x y) g) dAsB) g)) g) fun k => T.ite k ((fun g => T.bind ((fun _ => T.pure (.bl false)) g) fun d => T.pure (.rt d)) g) ((fun g => T.pure (.nx g)) g)) g) fun o => thenO o (fun g => T.bind ((fun g => T.bind ((fun g => T.bind ((fun g => T.bind ((dLc (fun g => T.bind ((argsC (fun g => T.bind ((argsC (fun g => getv g 2) args0) g) dLen) args0) g) dRng1) [9] (gN 9) tY (fun g => T.bind ((fun g => getv g 0) g) fun x => T.bind ((fun g => getv g 9) g) fun y => callI "Bench" (needN 2 F_Bench_getitem) x [y])) g) fun x => T.bind ((fun g => T.bind ((argsC (fun g => getv g 2) args0) g) dList) g) fun y => dNe x y) g) dAsB) g) fun k => T.ite k ((fun g => T.bind ((fun _ => T.pure (.bl false)) g) fun d => T.pure (.rt d)) g) ((fun g => T.pure (.nx g)) g)) g) fun o => thenO o (fun g => T.bind ((fun g => T.bind ((fun g => T.bind ((fun g => T.bind ((fun g => T.bind ((argsC (fun _ => T.pure (.int 4)) args0) g) fun ds => T.bind (dNeed (ds.length = 1)) fun _ => F__law_sets ds) g) fun x => T.bind ((fun g => T.bind ((argsC (fun _ => T.pure .non) (argsC (fun _ => T.pure (.int 0)) (argsC (fun _ => T.pure (.str "ba")) (argsC (fun g => T.bind ((argsC (fun _ => T.pure (.str "a")) args0) g) fun xs => T.bind (needSize xs.length) fun _ => T.pure (.tup xs)) args0)))) g) fun xs => T.bind (needSize xs.length) fun _ => T.pure (.lst xs)) g) fun y => dCat x y) g) dItL) g) fun ds => forT (gN 5) (fun g => T.bind ((fun g => T.bind ((fun g => T.bind ((fun g => T.bind ((fun g => getv g 5) g) fun x => T.bind ((fun g => getv g 0) g) fun y => T.bind (callI "Bench" (needN 2 F_Bench_contains) y [x]) (blD false)) g) fun x => T.bind ((fun g => T.bind ((fun g => getv g 5) g) fun x => T.bind ((fun g => T.bind ((argsC (fun g => getv g 2) args0) g) dList) g) fun y => (dIn false) x y) g) fun y => dNe x y) g) dAsB) g) fun k => T.ite k ((fun g => T.bind ((fun _ => T.pure (.bl false)) g) fun d => T.pure (.rt d)) g) ((fun g => T.pure (.nx g)) g)) ds g) g) fun o => thenO o (fun g => T.bind ((setO (fun g => T.bind (args0 g) fun xs => T.bind (needSize xs.length) fun _ => T.pure (.lst xs)) 6) g) fun o => thenO o (fun g => T.bind ((fun g => T.bind ((fun g => T.bind ((fun g => getv g 2) g) dItT) g) fun ds => forT (gN 7) (fun g => T.bind ((setV (fun g => T.bind ((fun g => T.bind ((fun g => T.bind ((argsC (fun g => getv g 2) (argsC (fun g => getv g 7) args0)) g) fun ds => T.bind (dNeed (ds.length = 2)) fun _ => F__law_picks ds) g) dTru) g) fun k => T.ite k ((fun _ => T.pure (.str " whole")) g) ((fun _ => T.pure (.str " part")) g)) 8) g) fun o => thenO o (appO 6 (fun g => T.bind ((fun g => T.bind ((fun g => T.bind ((fun g => T.bind ((fun g => getv g 7) g) fun x => T.bind ((fun _ => T.pure (.str "")) g) fun y => dNe x y) g) dAsB) g) fun k => T.ite k ((fun g => getv g 7) g) ((fun _ => T.pure (.str "-")) g)) g) fun x => T.bind ((fun g => getv g 8) g) fun y => dAdd x y))) ds g) g) fun o => thenO o (fun g => T.bind ((fun g => T.bind ((fun g => T.bind ((fun g => getv g 0) g) fun d => insOf "Bench" d fun _ fs => T.bind (dNeed (fs.lookup ("lines" : Str) = none ∧ 1 = 1)) fun _ => T.bind (noX (F_Bench_lines [d])) fun xs => T.pure (.lst xs)) g) fun x => T.bind ((fun g => getb g 6) g) fun y => dEq x y) g) fun d => T.pure (.rt d))))))))))
theorem X__law_bench_shows : ∃ f : List D → T D, f = fun ds => runD (m__law_bench_shows) 10 ds := ⟨_, rfl⟩
noncomputable def F__law_bench_shows : List D → T D := Classical.choose X__law_bench_shows
theorem F__law_bench_shows_eq : F__law_bench_shows = fun ds => runD (m__law_bench_shows) 10 ds := Classical.choose_spec X__law_bench_shows
noncomputable def m_Bench_keep : MS := (fun g => T.bind ((fun g => T.bind ((fun g => T.bind ((fun g => T.bind ((fun g => T.bind ((argsC (fun g => T.bind ((fun g => getv g 0) g) (dFld "Bench" "past")) args0) g) dLenM) g) fun x => T.bind ((fun _ => T.pure (.int 40)) g) fun y => dGe x y) g) dAsB) g) fun k => T.ite k ((fun _ => T.fail) g) ((fun g => T.pure (.nx g)) g)) g) fun o => thenO o (fun g => T.bind ((setV (fun g => T.bind ((fun g => getv g 0) g) (dFld "Bench" "now")) 2) g) fun o => thenO o (fun g => T.bind ((appM (fun g => T.bind ((fun g => getv g 0) g) (dFld "Bench" "past")) (fun g => getv g 2)) g) fun o => thenO o (fun g => T.bind ((fun g => T.bind ((fun g => getv g 1) g) fun d => T.bind ((fun g => getv g 0) g) fun x => dSetF "Bench" "now" x d g) g) fun o => thenO o (fun g => T.bind ((fun g => T.bind ((fun g => getv g 2) g) fun x => T.bind ((fun g => getv g 1) g) fun y => dNe x y) g) fun d => T.pure (.rt d))))))
theorem X_Bench_keep : ∃ f : List D → T D, f = fun ds => runD m_Bench_keep 3 ds := ⟨_, rfl⟩
noncomputable def F_Bench_keep : List D → T D := Classical.choose X_Bench_keep
theorem F_Bench_keep_eq : F_Bench_keep = fun ds => runD m_Bench_keep 3 ds := Classical.choose_spec X_Bench_keep
noncomputable def m_Bench_iadd : MS := (fun g => T.bind ((fun g => T.bind ((fun g => T.bind ((fun g => T.bind ((fun g => T.bind ((fun g => T.bind ((argsC (fun g => getv g 1) (argsC (fun _ => T.pure (.ty "tuple")) args0)) g) dIsi) g) dTru) g) fun k => T.pure (!k)) g) fun k => T.ite k (T.pure true) ((fun g => T.bind ((fun g => T.bind ((fun g => T.bind ((fun g => T.bind ((argsC (fun g => getv g 1) args0) g) dLen) g) fun x => T.bind ((fun _ => T.pure (.int 16)) g) fun y => dGt x y) g) dAsB) g) fun k => T.ite k (T.pure true) ((fun g => T.bind ((fun g => T.bind ((fun g => T.bind ((argsC (dLc (fun g => T.bind ((fun g => getv g 1) g) dItT) [2] (gN 2) tY (fun g => T.bind ((argsC (fun g => T.bind ((fun g => getv g 0) g) (dFld "Bench" "base")) (argsC (fun g => getv g 2) args0)) g) fun ds => T.bind (dNeed (ds.length = 2)) fun _ => F_is_good_set ds)) args0) g) dAll) g) dTru) g) fun k => T.pure (!k)) g)) g)) g) fun k => T.ite k ((fun _ => T.raise ⟨"InvalidSet", []⟩) g) ((fun g => T.pure (.nx g)) g)) g) fun o => thenO o (fun g => T.bind ((fun g => T.bind ((fun g => T.bind ((fun g => getv g 0) g) fun d => insOf "Bench" d fun _ fs => T.bind (dNeed (fs.lookup ("keep" : Str) = none)) fun _ => T.bind ((argsC (fun g => T.bind ((argsC (fun g => T.bind ((fun g => T.bind ((fun g => T.bind ((fun g => getv g 0) g) (dFld "Bench" "now")) g) fun x => T.bind ((fun g => getv g 1) g) fun y => dAdd x y) g) dSset) args0) g) dTuple) args0) g) fun ds => needN 2 F_Bench_keep (d :: ds)) g) fun _ => T.pure (.nx g)) g) fun o => thenO o (fun g => T.bind ((fun g => getv g 0) g) fun d => T.pure (.rt d))))
theorem X_Bench_iadd : ∃ f : List D → T D, f = fun ds => runD m_Bench_iadd 3 ds := ⟨_, rfl⟩
noncomputable def F_Bench_iadd : List D → T D := Classical.choose X_Bench_iadd
theorem F_Bench_iadd_eq : F_Bench_iadd = fun ds => runD m_Bench_iadd 3 ds := Classical.choose_spec X_Bench_iadd
noncomputable def m_Bench_strike : MS := (fun g => T.bind ((fun g => T.bind ((fun g => T.bind ((argsC (fun g => T.bind ((fun g => getv g 0) g) (dFld "Bench" "base")) (argsC (fun g => getv g 1) args0)) g) fun ds => T.bind (dNeed (ds.length = 2)) fun _ => F_need_set ds) g) fun _ => T.pure (.nx g)) g) fun o => thenO o (fun g => T.bind ((fun g => T.bind ((fun g => getv g 0) g) fun d => insOf "Bench" d fun _ fs => T.bind (dNeed (fs.lookup ("keep" : Str) = none)) fun _ => T.bind ((argsC (fun g => T.bind ((argsC (dLc (fun g => T.bind ((fun g => T.bind ((fun g => getv g 0) g) (dFld "Bench" "now")) g) dItT) [2] (gN 2) (fun g => T.bind ((fun g => T.bind ((fun g => getv g 2) g) fun x => T.bind ((fun g => getv g 1) g) fun y => dNe x y) g) dAsB) (fun g => getv g 2)) args0) g) dTuple) args0) g) fun ds => needN 2 F_Bench_keep (d :: ds)) g) fun d => T.pure (.rt d)))
theorem X_Bench_strike : ∃ f : List D → T D, f = fun ds => runD m_Bench_strike 3 ds := ⟨_, rfl⟩
noncomputable def F_Bench_strike : List D → T D := Classical.choose X_Bench_strike
theorem F_Bench_strike_eq : F_Bench_strike = fun ds => runD m_Bench_strike 3 ds := Classical.choose_spec X_Bench_strike
noncomputable def m_Bench_undo : MS := (fun g => T.bind ((fun g => T.bind ((fun g => T.bind (T.bind ((fun g => T.bind ((fun g => getv g 0) g) (dFld "Bench" "past")) g) nilM) dAsB) g) fun k => T.ite k ((fun _ => T.raise ⟨"NothingToUndo", []⟩) g) ((fun g => T.pure (.nx g)) g)) g) fun o => thenO o (fun g => T.bind ((fun g => T.bind ((fun g => T.bind ((fun g => getv g 0) g) (dFld "Bench" "past")) g) popM) g) fun d => T.bind ((fun g => getv g 0) g) fun x => dSetF "Bench" "now" x d g))
theorem X_Bench_undo : ∃ f : List D → T D, f = fun ds => runD m_Bench_undo 1 ds := ⟨_, rfl⟩
noncomputable def F_Bench_undo : List D → T D := Classical.choose X_Bench_undo
theorem F_Bench_undo_eq : F_Bench_undo = fun ds => runD m_Bench_undo 1 ds := Classical.choose_spec X_Bench_undo
noncomputable def m__law_deeds : MS := (fun g => T.bind ((fun g => T.bind (getv g 0) fun o => T.bind ((fun g => getv g 1) g) fun d => insOf "Bench" o fun _ _ => T.bind ((needN 2 F_Bench_iadd) [o, d]) fun z => T.pure (.nx (g.set 0 (.va z)))) g) fun o => thenO o (fun g => T.bind ((fun g => T.bind (getv g 0) fun o => T.bind ((fun g => T.bind (args0 g) fun xs => T.bind (needSize xs.length) fun _ => T.pure (.tup xs)) g) fun d => insOf "Bench" o fun _ _ => T.bind ((needN 2 F_Bench_iadd) [o, d]) fun z => T.pure (.nx (g.set 0 (.va z)))) g) fun o => thenO o (fun g => T.bind ((fun g => T.bind ((fun g => T.bind ((fun g => getv g 0) g) fun d => insOf "Bench" d fun _ fs => T.bind (dNeed (fs.lookup ("strike" : Str) = none)) fun _ => T.bind ((argsC (fun _ => T.pure (.str "a")) args0) g) fun ds => needN 2 F_Bench_strike (d :: ds)) g) fun _ => T.pure (.nx g)) g) fun o => thenO o (fun g => T.bind ((fun g => T.bind ((fun g => T.bind ((fun g => getv g 0) g) fun d => insOf "Bench" d fun _ fs => T.bind (dNeed (fs.lookup ("undo" : Str) = none)) fun _ => needN 1 F_Bench_undo [d]) g) fun _ => T.pure (.nx g)) g) fun o => thenO o (fun g => T.bind ((fun g => T.bind ((fun g => getv g 0) g) fun d => T.bind (callI "Bench" (needN 1 F_Bench_len) d []) natD) g) fun d => T.pure (.rt d))))))
theorem X__law_deeds : ∃ f : List D → T D, f = fun ds => runD (m__law_deeds) 2 ds := ⟨_, rfl⟩
noncomputable def F__law_deeds : List D → T D := Classical.choose X__law_deeds
theorem F__law_deeds_eq : F__law_deeds = fun ds => runD (m__law_deeds) 2 ds := Classical.choose_spec X__law_deeds
noncomputable def m_Bench_attempt (f : Addr) (act : D → T D) : MS := (fun g => T.bind ((par2 2 3 (argsC (fun g => T.bind ((fun g => getv g 0) g) (dFld "Bench" "now")) (argsC (fun g => T.bind ((fun g => T.bind ((argsC (fun g => T.bind ((fun g => getv g 0) g) (dFld "Bench" "past")) args0) g) dListM) g) newL) args0))) g) fun o => thenO o (fun g => T.bind ((tryAct 4 f act (par2 2 3 (argsC (fun g => T.bind ((fun g => getv g 0) g) (dFld "Bench" "now")) (argsC (fun g => T.bind ((fun g => getv g 0) g) (dFld "Bench" "past")) args0))) (fun g => T.bind ((fun g => T.bind ((fun g => getv g 2) g) fun d => T.bind ((fun g => getv g 0) g) fun x => dSetF "Bench" "now" x d g) g) fun o => thenO o (fun g => T.bind ((fun g => getv g 3) g) fun d => T.bind ((fun g => getv g 0) g) fun x => dSetF "Bench" "past" x d g))) g) fun o => thenO o (fun g => T.bind ((fun g => getv g 4) g) fun d => T.pure (.rt d))))
theorem X_Bench_attempt : ∃ F : (D → T D) → D → T D, F = attD 5 m_Bench_attempt := ⟨_, rfl⟩
noncomputable def F_Bench_attempt : (D → T D) → D → T D := Classical.choose X_Bench_attempt
theorem F_Bench_attempt_eq : F_Bench_attempt = attD 5 m_Bench_attempt := Classical.choose_spec X_Bench_attempt
noncomputable def m__law_fails (P__law_fails : Addr) : MS := (fun g => T.bind ((fun g => T.bind ((fun g => T.bind ((fun g => getv g 2) g) dTru) g) fun k => T.ite k ((fun g => T.bind ((fun g => T.bind ((fun g => getv g 0) g) fun d => insOf "Bench" d fun _ fs => T.bind (dNeed (fs.lookup ("attempt" : Str) = none)) fun _ => lamDT P__law_fails ("_law_fails.<locals>.<lambda>" : Str) fun _ => F_Bench_attempt (fun v => (fun g => T.bind ((argsC (fun g => getv g 3) (argsC (fun g => getv g 1) args0)) g) fun ds => T.bind (dNeed (ds.length = 2)) fun _ => F__law_deeds ds) (g ++ [Sl.va v])) d) g) fun _ => T.pure (.nx g)) g) ((fun g => T.bind (getv g 0) fun o => T.bind ((fun g => getv g 1) g) fun d => insOf "Bench" o fun _ _ => T.bind ((needN 2 F_Bench_iadd) [o, d]) fun z => T.pure (.nx (g.set 0 (.va z)))) g)) g) fun o => thenO o (fun g => T.bind ((fun g => T.bind ((fun g => getv g 0) g) fun x => T.bind ((fun _ => T.pure (.int 99)) g) fun y => callI "Bench" (needN 2 F_Bench_getitem) x [y]) g) fun d => T.pure (.rt d)))
theorem X__law_fails : ∃ f : Addr → List D → T D, f = fun P__law_fails ds => runD (m__law_fails P__law_fails) 3 ds := ⟨_, rfl⟩
noncomputable def F__law_fails : Addr → List D → T D := Classical.choose X__law_fails
theorem F__law_fails_eq : F__law_fails = fun P__law_fails ds => runD (m__law_fails P__law_fails) 3 ds := Classical.choose_spec X__law_fails
noncomputable def m__law_tried (P__law_fails : Addr) (P__law_tried : Addr) : MS := (fun g => T.bind ((fun g => T.bind ((fun g => getv g 0) g) fun d => insOf "Bench" d fun _ fs => T.bind (dNeed (fs.lookup ("attempt" : Str) = none)) fun _ => lamDT P__law_tried ("_law_tried.<locals>.<lambda>" : Str) fun _ => F_Bench_attempt (fun v => (fun g => T.bind ((argsC (fun g => getv g 3) (argsC (fun g => getv g 1) (argsC (fun g => getv g 2) args0))) g) fun ds => T.bind (dNeed (ds.length = 3)) fun _ => (F__law_fails P__law_fails) ds) (g ++ [Sl.va v])) d) g) fun d => T.pure (.rt d))
theorem X__law_tried : ∃ f : Addr → Addr → List D → T D, f = fun P__law_fails P__law_tried ds => runD (m__law_tried P__law_fails P__law_tried) 3 ds := ⟨_, rfl⟩
noncomputable def F__law_tried : Addr → Addr → List D → T D := Classical.choose X__law_tried
theorem F__law_tried_eq : F__law_tried = fun P__law_fails P__law_tried ds => runD (m__law_tried P__law_fails P__law_tried) 3 ds := Classical.choose_spec X__law_tried
noncomputable def m_Bench_put : MS := (fun g => T.bind ((fun g => T.bind ((fun g => T.bind ((argsC (fun g => T.bind ((fun g => getv g 0) g) (dFld "Bench" "base")) (argsC (fun g => getv g 1) args0)) g) fun ds => T.bind (dNeed (ds.length = 2)) fun _ => F_need_set ds) g) fun _ => T.pure (.nx g)) g) fun o => thenO o (fun g => T.bind ((fun g => T.bind ((fun g => getv g 0) g) fun d => insOf "Bench" d fun _ fs => T.bind (dNeed (fs.lookup ("keep" : Str) = none)) fun _ => T.bind ((argsC (fun g => T.bind ((argsC (fun g => T.bind ((fun g => T.bind ((fun g => T.bind ((fun g => getv g 0) g) (dFld "Bench" "now")) g) fun x => T.bind ((fun g => T.bind ((argsC (fun g => getv g 1) args0) g) fun xs => T.bind (needSize xs.length) fun _ => T.pure (.tup xs)) g) fun y => dAdd x y) g) dSset) args0) g) dTuple) args0) g) fun ds => needN 2 F_Bench_keep (d :: ds)) g) fun d => T.pure (.rt d)))
theorem X_Bench_put : ∃ f : List D → T D, f = fun ds => runD m_Bench_put 2 ds := ⟨_, rfl⟩
noncomputable def F_Bench_put : List D → T D := Classical.choose X_Bench_put
theorem F_Bench_put_eq : F_Bench_put = fun ds => runD m_Bench_put 2 ds := Classical.choose_spec X_Bench_put
noncomputable def m_Bench_squeeze : MS := (fun g => T.bind ((fun g => T.bind ((fun g => T.bind ((argsC (fun g => T.bind ((fun g => getv g 0) g) (dFld "Bench" "base")) (argsC (fun g => getv g 1) args0)) g) fun ds => T.bind (dNeed (ds.length = 2)) fun _ => F_need_letter ds) g) fun _ => T.pure (.nx g)) g) fun o => thenO o (fun g => T.bind ((fun g => T.bind ((fun g => getv g 0) g) fun d => insOf "Bench" d fun _ fs => T.bind (dNeed (fs.lookup ("keep" : Str) = none)) fun _ => T.bind ((argsC (fun g => T.bind ((argsC (fun g => T.bind ((fun g => getv g 0) g) (dFld "Bench" "now")) (argsC (fun g => getv g 1) args0)) g) fun ds => T.bind (dNeed (ds.length = 2)) fun _ => F_squeezed_by ds) args0) g) fun ds => needN 2 F_Bench_keep (d :: ds)) g) fun d => T.pure (.rt d)))
theorem X_Bench_squeeze : ∃ f : List D → T D, f = fun ds => runD m_Bench_squeeze 2 ds := ⟨_, rfl⟩
noncomputable def F_Bench_squeeze : List D → T D := Classical.choose X_Bench_squeeze
theorem F_Bench_squeeze_eq : F_Bench_squeeze = fun ds => runD m_Bench_squeeze 2 ds := Classical.choose_spec X_Bench_squeeze
noncomputable def m_law (P__law_fails : Addr) (P__law_tried : Addr) (P_law : Addr) : MS := (fun g => T.bind ((fun g => T.bind ((fun g => T.bind ((argsC (fun g => T.bind ((fun _ => T.pure (.int 1)) g) fun x => T.bind ((fun g => T.bind ((argsC (fun g => T.bind ((argsC (fun g => getv g 0) args0) g) dLen) (argsC (fun _ => T.pure (.int 8)) args0)) g) dMin2) g) fun y => dAdd x y) args0) g) dRng1) g) fun ds => forT (gN 1) (fun g => T.bind ((setV (fun g => T.bind ((argsC (fun g => getv g 0) (argsC (fun g => getv g 1) args0)) g) fun ds => T.bind (dNeed (ds.length = 2)) fun _ => F__law_source ds) 2) g) fun o => thenO o (fun g => T.bind ((setV (fun g => T.bind ((fun _ => T.pure (.int 1)) g) fun x => T.bind ((fun g => T.bind ((argsC (fun g => getv g 2) (argsC (fun _ => T.pure (.int 4)) args0)) g) fun ds => T.bind (dNeed (ds.length = 2)) fun _ => F__law_draw ds) g) fun y => dAdd x y) 3) g) fun o => thenO o (fun g => T.bind ((fun g => T.bind ((fun g => T.bind ((argsC (fun g => T.bind ((fun _ => T.pure (.int 1)) g) fun x => T.bind ((fun g => T.bind ((argsC (fun g => getv g 2) (argsC (fun _ => T.pure (.int 4)) args0)) g) fun ds => T.bind (dNeed (ds.length = 2)) fun _ => F__law_draw ds) g) fun y => dAdd x y) (argsC (fun g => T.bind ((argsC (fun g => getv g 3) args0) g) fun ds => T.bind (dNeed (ds.length = 1)) fun _ => F__law_sets ds) args0)) g) fun xs => T.bind (needSize xs.length) fun _ => T.pure (.tup xs)) g) fun d => T.bind ((gT2 4 5) d g) fun g' => T.pure (.nx g')) g) fun o => thenO o (fun g => T.bind ((setV (fun g => T.bind ((argsC (dLc (fun g => T.bind ((argsC (fun g => getv g 4) args0) g) dRng1) [11] (gN 11) tY (fun g => T.bind ((argsC (fun g => getv g 2) (argsC (fun g => getv g 5) args0)) g) fun ds => T.bind (dNeed (ds.length = 2)) fun _ => F__law_of ds)) args0) g) dTuple) 6) g) fun o => thenO o (fun g => T.bind ((setV (fun g => T.bind ((argsC (fun g => T.bind ((fun g => getv g 6) g) dSset) args0) g) dTuple) 7) g) fun o => thenO o (fun g => T.bind ((fun g => T.bind ((fun g => T.bind ((argsC (fun g => T.bind ((argsC (fun g => getv g 3) args0) g) (mkT "Bench" (needN 2 F_Bench_init))) (argsC (fun g => T.bind ((fun g => T.bind ((argsC (fun g => getv g 2) (argsC (fun _ => T.pure (.int 2)) args0)) g) fun ds => T.bind (dNeed (ds.length = 2)) fun _ => F__law_draw ds) g) fun x => T.bind ((fun _ => T.pure (.int 0)) g) fun y => dEq x y) args0)) g) fun xs => T.bind (needSize xs.length) fun _ => T.pure (.tup xs)) g) fun d => T.bind ((gT2 8 9) d g) fun g' => T.pure (.nx g')) g) fun o => thenO o (fun g => T.bind ((fun g => T.bind ((fun g => T.bind ((fun g => T.bind ((fun g => lamDT P_law ("law.<locals>.<lambda>" : Str) fun P2 => wordD [("InvalidNumber", "number"), ("InvalidSet", "set"), ("InvalidLetter", "letter"), ("NothingToUndo", "nothing")] "none" ((fun g => T.bind ((argsC (fun g => getv g 8) (argsC (fun g => getv g 6) (argsC (fun g => getv g 9) args0))) g) fun ds => T.bind (dNeed (ds.length = 3)) fun _ => (F__law_tried P__law_fails P__law_tried) ds) g)) g) fun x => T.bind ((fun _ => T.pure (.str "number")) g) fun y => dNe x y) g) dAsB) g) fun k => T.ite k ((fun g => T.bind ((fun _ => T.pure (.bl false)) g) fun d => T.pure (.rt d)) g) ((fun g => T.pure (.nx g)) g)) g) fun o => thenO o (fun g => T.bind ((fun g => T.bind ((fun g => T.bind ((fun g => T.bind ((fun g => T.bind ((argsC (fun g => getv g 8) (argsC (fun g => getv g 3) (argsC (fun g => T.bind (args0 g) fun xs => T.bind (needSize xs.length) fun _ => T.pure (.tup xs)) (argsC (fun _ => T.pure (.int 0)) args0)))) g) fun ds => T.bind (dNeed (ds.length = 4)) fun _ => F__law_bench_shows ds) g) dTru) g) fun k => T.pure (!k)) g) fun k => T.ite k ((fun g => T.bind ((fun _ => T.pure (.bl false)) g) fun d => T.pure (.rt d)) g) ((fun g => T.pure (.nx g)) g)) g) fun o => thenO o (fun g => T.bind ((fun g => T.bind ((fun g => T.bind ((fun g => T.bind ((fun g => T.bind ((fun g => getv g 8) g) fun d => insOf "Bench" d fun _ fs => T.bind (dNeed (fs.lookup ("attempt" : Str) = none)) fun _ => lamDT P_law ("law.<locals>.<lambda>" : Str) fun _ => F_Bench_attempt (fun v => (fun g => T.bind ((argsC (fun g => getv g 12) (argsC (fun g => getv g 6) args0)) g) fun ds => T.bind (dNeed (ds.length = 2)) fun _ => F__law_deeds ds) (g ++ [Sl.va v])) d) g) fun x => T.bind ((fun _ => T.pure (.int 2)) g) fun y => dNe x y) g) dAsB) g) fun k => T.ite k ((fun g => T.bind ((fun _ => T.pure (.bl false)) g) fun d => T.pure (.rt d)) g) ((fun g => T.pure (.nx g)) g)) g) fun o => thenO o (fun g => T.bind ((fun g => T.bind ((fun g => T.bind ((fun g => T.bind ((fun g => T.bind ((argsC (fun g => getv g 8) (argsC (fun g => getv g 3) (argsC (fun g => getv g 7) (argsC (fun _ => T.pure (.int 2)) args0)))) g) fun ds => T.bind (dNeed (ds.length = 4)) fun _ => F__law_bench_shows ds) g) dTru) g) fun k => T.pure (!k)) g) fun k => T.ite k ((fun g => T.bind ((fun _ => T.pure (.bl false)) g) fun d => T.pure (.rt d)) g) ((fun g => T.pure (.nx g)) g)) g) fun o => thenO o (fun g => T.bind ((fun g => T.bind ((fun g => T.bind ((fun g => T.bind ((fun g => lamDT P_law ("law.<locals>.<lambda>" : Str) fun P2 => wordD [("InvalidNumber", "number"), ("InvalidSet", "set"), ("InvalidLetter", "letter"), ("NothingToUndo", "nothing")] "none" ((fun g => T.bind ((fun g => getv g 8) g) fun d => insOf "Bench" d fun _ fs => T.bind (dNeed (fs.lookup ("attempt" : Str) = none)) fun _ => lamDT P2 (inQ ("law.<locals>.<lambda>" : Str)) fun _ => F_Bench_attempt (fun v => (fun g => T.bind ((fun g => getv g 12) g) fun d => insOf "Bench" d fun _ fs => T.bind (dNeed (fs.lookup ("put" : Str) = none)) fun _ => T.bind ((argsC (fun _ => T.pure (.str "e")) args0) g) fun ds => needN 2 F_Bench_put (d :: ds)) (g ++ [Sl.va v])) d) g)) g) fun x => T.bind ((fun _ => T.pure (.str "set")) g) fun y => dNe x y) g) dAsB) g) fun k => T.ite k ((fun g => T.bind ((fun _ => T.pure (.bl false)) g) fun d => T.pure (.rt d)) g) ((fun g => T.pure (.nx g)) g)) g) fun o => thenO o (fun g => T.bind ((fun g => T.bind ((fun g => T.bind ((fun g => T.bind ((fun g => lamDT P_law ("law.<locals>.<lambda>" : Str) fun P2 => wordD [("InvalidNumber", "number"), ("InvalidSet", "set"), ("InvalidLetter", "letter"), ("NothingToUndo", "nothing")] "none" ((fun g => T.bind ((argsC (fun g => getv g 8) (argsC (fun g => getv g 6) (argsC (fun g => T.bind ((fun g => getv g 9) g) fun x => T.bind (dAsB x) fun k => T.pure (.bl (!k))) args0))) g) fun ds => T.bind (dNeed (ds.length = 3)) fun _ => (F__law_tried P__law_fails P__law_tried) ds) g)) g) fun x => T.bind ((fun _ => T.pure (.str "number")) g) fun y => dNe x y) g) dAsB) g) fun k => T.ite k ((fun g => T.bind ((fun _ => T.pure (.bl false)) g) fun d => T.pure (.rt d)) g) ((fun g => T.pure (.nx g)) g)) g) fun o => thenO o (fun g => T.bind ((fun g => T.bind ((fun g => T.bind ((fun g => T.bind ((fun g => lamDT P_law ("law.<locals>.<lambda>" : Str) fun P2 => wordD [("InvalidNumber", "number"), ("InvalidSet", "set"), ("InvalidLetter", "letter"), ("NothingToUndo", "nothing")] "none" ((fun g => T.bind ((fun g => getv g 8) g) fun d => insOf "Bench" d fun _ fs => T.bind (dNeed (fs.lookup ("attempt" : Str) = none)) fun _ => lamDT P2 (inQ ("law.<locals>.<lambda>" : Str)) fun _ => F_Bench_attempt (fun v => (fun g => T.bind ((fun g => getv g 12) g) fun d => insOf "Bench" d fun _ fs => T.bind (dNeed (fs.lookup ("squeeze" : Str) = none)) fun _ => T.bind ((argsC (fun _ => T.pure (.str "e")) args0) g) fun ds => needN 2 F_Bench_squeeze (d :: ds)) (g ++ [Sl.va v])) d) g)) g) fun x => T.bind ((fun _ => T.pure (.str "letter")) g) fun y => dNe x y) g) dAsB) g) fun k => T.ite k ((fun g => T.bind ((fun _ => T.pure (.bl false)) g) fun d => T.pure (.rt d)) g) ((fun g => T.pure (.nx g)) g)) g) fun o => thenO o (fun g => T.bind ((fun g => T.bind ((fun g => T.bind ((fun g => T.bind ((argsC (fun g => T.bind ((argsC (fun _ => T.pure (.int 1)) (argsC (fun g => getv g 7) args0)) g) fun xs => T.bind (needSize xs.length) fun _ => T.pure (.tup xs)) (argsC (fun g => T.bind ((argsC (fun _ => T.pure (.int 0)) (argsC (fun g => T.bind (args0 g) fun xs => T.bind (needSize xs.length) fun _ => T.pure (.tup xs)) args0)) g) fun xs => T.bind (needSize xs.length) fun _ => T.pure (.tup xs)) args0)) g) fun xs => T.bind (needSize xs.length) fun _ => T.pure (.lst xs)) g) dItL) g) fun ds => forT (gT2 4 10) (fun g => T.bind ((fun g => T.bind ((fun g => T.bind ((fun g => T.bind ((fun g => T.bind ((fun g => getv g 8) g) fun d => insOf "Bench" d fun _ fs => T.bind (dNeed (fs.lookup ("undo" : Str) = none)) fun _ => needN 1 F_Bench_undo [d]) g) fun x => T.bind ((fun _ => T.pure .non) g) fun y => (dIsN true) x y) g) dAsB) g) fun k => T.ite k ((fun g => T.bind ((fun _ => T.pure (.bl false)) g) fun d => T.pure (.rt d)) g) ((fun g => T.pure (.nx g)) g)) g) fun o => thenO o (fun g => T.bind ((fun g => T.bind ((fun g => T.bind ((fun g => T.bind ((argsC (fun g => getv g 8) (argsC (fun g => getv g 3) (argsC (fun g => getv g 10) (argsC (fun g => getv g 4) args0)))) g) fun ds => T.bind (dNeed (ds.length = 4)) fun _ => F__law_bench_shows ds) g) dTru) g) fun k => T.pure (!k)) g) fun k => T.ite k ((fun g => T.bind ((fun _ => T.pure (.bl false)) g) fun d => T.pure (.rt d)) g) ((fun g => T.pure (.nx g)) g))) ds g) g) fun o => thenO o (fun g => T.bind ((fun g => T.bind ((fun g => T.bind ((fun g => T.bind ((fun g => lamDT P_law ("law.<locals>.<lambda>" : Str) fun P2 => wordD [("InvalidNumber", "number"), ("InvalidSet", "set"), ("InvalidLetter", "letter"), ("NothingToUndo", "nothing")] "none" ((fun g => T.bind ((fun g => getv g 8) g) fun d => insOf "Bench" d fun _ fs => T.bind (dNeed (fs.lookup ("attempt" : Str) = none)) fun _ => lamDT P2 (inQ ("law.<locals>.<lambda>" : Str)) fun _ => F_Bench_attempt (fun v => (fun g => T.bind ((fun g => getv g 12) g) fun d => insOf "Bench" d fun _ fs => T.bind (dNeed (fs.lookup ("undo" : Str) = none)) fun _ => needN 1 F_Bench_undo [d]) (g ++ [Sl.va v])) d) g)) g) fun x => T.bind ((fun _ => T.pure (.str "nothing")) g) fun y => dNe x y) g) dAsB) g) fun k => T.ite k ((fun g => T.bind ((fun _ => T.pure (.bl false)) g) fun d => T.pure (.rt d)) g) ((fun g => T.pure (.nx g)) g)) g) fun o => thenO o (fun g => T.bind ((fun g => T.bind ((fun g => T.bind ((fun g => T.bind ((fun g => T.bind ((fun g => getv g 8) g) fun d => insOf "Bench" d fun _ fs => T.bind (dNeed (fs.lookup ("attempt" : Str) = none)) fun _ => lamDT P_law ("law.<locals>.<lambda>" : Str) fun _ => F_Bench_attempt (fun v => (fun _ => T.pure (.int 5)) (g ++ [Sl.va v])) d) g) fun x => T.bind ((fun _ => T.pure (.int 5)) g) fun y => dNe x y) g) dAsB) g) fun k => T.ite k (T.pure true) ((fun g => T.bind ((fun g => T.bind ((fun g => T.bind ((fun g => getv g 8) g) fun x => T.bind ((fun g => T.bind ((argsC (fun g => getv g 3) args0) g) (mkT "Bench" (needN 2 F_Bench_init))) g) fun y => T.bind (rightD "Bench" y) fun _ => callI "Bench" (needN 2 F_Bench_eq) x [y]) g) dAsB) g) fun k => T.pure (!k)) g)) g) fun k => T.ite k ((fun g => T.bind ((fun _ => T.pure (.bl false)) g) fun d => T.pure (.rt d)) g) ((fun g => T.pure (.nx g)) g))))))))))))))))) ds g) g) fun o => thenO o (fun g => T.bind ((fun _ => T.pure (.bl true)) g) fun d => T.pure (.rt d)))
theorem X_law : ∃ f : Addr → Addr → Addr → List D → T D, f = fun P__law_fails P__law_tried P_law ds => runD (m_law P__law_fails P__law_tried P_law) 12 ds := ⟨_, rfl⟩
noncomputable def F_law : Addr → Addr → Addr → List D → T D := Classical.choose X_law
theorem F_law_eq : F_law = fun P__law_fails P__law_tried P_law ds => runD (m_law P__law_fails P__law_tried P_law) 12 ds := Classical.choose_spec X_law
end Em

set_option Elab.async false
set_option linter.all false
set_option maxRecDepth 100000
set_option maxHeartbeats 4000000
namespace Em
open PySem PySem.Spec PyProof.Rows L2 DL OrdS
/-! ### the sets of letters -/
def L4 : List Str := [⟨#[97]⟩, ⟨#[98]⟩, ⟨#[99]⟩, ⟨#[100]⟩]
theorem letters_n {n : Nat} (h : n ≤ 4) : chars (cutS "abcd" none (some (n : Int))) = (L4.take n).map D.str := by
  match n, h with
  | 0, _ => kernel_rfl
  | 1, _ => kernel_rfl
  | 2, _ => kernel_rfl
  | 3, _ => kernel_rfl
  | 4, _ => kernel_rfl
def genF : List Str → List Str → List Str
  | acc, [] => acc
  | acc, c :: r => genF (acc ++ acc.map fun s => s ++ c) r
/-- all sets of the first n letters, in no order -/
def genS (n : Nat) : List Str := genF [""] (L4.take n)
/-- all sets of the first n letters -/
def setsL (n : Nat) : List Str := ssort (genS n)
def genB : MS := setV (fun g => T.bind ((fun g => getv g 1) g) fun x => T.bind ((dLc (fun g => T.bind ((fun g => getv g 1) g) dItL) [3] (gN 3) tY (fun g => T.bind ((fun g => getv g 3) g) fun x => T.bind ((fun g => getv g 2) g) fun y => dAdd x y)) g) fun y => dCat x y) 1
theorem str_len {s c : Str} : (s ++ c).length = s.length + c.length := Array.size_append
theorem gen_loop {n : D} {Q : Out → Sto → Prop} {E : Xn → Sto → Prop} : ∀ (rs acc : List Str) (a b : Sl) (S : Sto), acc.length * 2 ^ rs.length ≤ 16 → (∀ s ∈ acc, s.length + rs.length ≤ 4) → (∀ c ∈ rs, c.length = 1) →
    (∀ a b, Q (.nx [.va n, .va (.lst ((genF acc rs).map D.str)), a, b]) S) → forT (gN 2) genB (rs.map D.str) [.va n, .va (.lst (acc.map D.str)), a, b] S Q E
  | [], acc, a, b, S, _, _, _, h => h a b
  | c :: r, acc, a, b, S, h1, h2, h3, h => by
    have hc : c.length = 1 := h3 c List.mem_cons_self
    have hp : 0 < 2 ^ r.length := Nat.pow_pos (by decide)
    have e2 : 2 ^ (c :: r).length = 2 * 2 ^ r.length := by rw [List.length_cons, Nat.pow_succ, Nat.mul_comm]
    rw [e2, ← Nat.mul_assoc] at h1
    have hl : acc.length * 2 ≤ 16 := Nat.le_trans (Nat.le_mul_of_pos_right _ hp) h1
    have hs : ∀ s ∈ acc, s.length ≤ 4 := fun s hs => by have := h2 s hs; omega
    conv => whnf
    refine ⟨sz (by rw [List.length_map]; omega), ?_⟩
    refine lc_m (fun d => match d with | .str s => .str (s ++ c) | d => d) (fun d hd => ?_) _ _ ?_
    · obtain ⟨s, hs', rfl⟩ := List.mem_map.mp hd
      intro Q E hq
      conv => whnf
      refine ⟨sz (by have := hs s hs'; omega), hq⟩
    · have e : (acc.map D.str).map (fun d => match d with | .str s => .str (s ++ c) | d => d) = (acc.map fun s => s ++ c).map D.str := by
        rw [List.map_map, List.map_map]; rfl
      rw [e]
      conv => whnf
      refine ⟨sz (by rw [List.length_map, List.length_map, List.length_map]; omega), ?_⟩
      rw [← List.map_append]
      refine gen_loop r _ _ _ S ?_ ?_ (fun c hc => h3 c (List.mem_cons_of_mem _ hc)) h
      · rw [List.length_append, List.length_map]
        have e : acc.length + acc.length = acc.length * 2 := by omega
        rw [e]; exact h1
      · intro s hs'
        rcases List.mem_append.mp hs' with hs' | hs'
        · have := h2 s hs'; rw [List.length_cons] at this; omega
        · obtain ⟨t, ht, rfl⟩ := List.mem_map.mp hs'
          have := h2 t ht
          rw [List.length_cons] at this
          rw [str_len]; omega
theorem take_len {n : Nat} (h : n ≤ 4) : ∀ c ∈ L4.take n, c.length = 1 := fun c hc => by
  have : c ∈ L4 := List.mem_of_mem_take hc
  simp only [L4, List.mem_cons, List.mem_nil_iff, or_false] at this
  rcases this with rfl | rfl | rfl | rfl <;> rfl
theorem gen_len {n : Nat} (h : n ≤ 4) : (genS n).length ≤ 16 := by
  match n, h with
  | 0, _ => decide
  | 1, _ => decide
  | 2, _ => decide
  | 3, _ => decide
  | 4, _ => decide
theorem F_every_set_r {n : Nat} {S : Sto} (h : n ≤ 4) : Ret (F_every_set [.int n]) S (.tup ((setsL n).map D.str)) := by
  intro Q E hq
  rw [F_every_set_eq]
  delta m_every_set
  conv => whnf
  refine ⟨sz (by decide), ?_⟩
  conv => whnf
  refine ⟨sz (by decide), ?_⟩
  show forT (gN 2) genB (chars (cutS "abcd" none (some (n : Int)))) [.va (.int n), .va (.lst ([("" : Str)].map D.str)), .un, .un] S _ _
  rw [letters_n h]
  refine gen_loop _ _ _ _ S ?_ ?_ (take_len h) fun a b => ?_
  · have : (L4.take n).length ≤ 4 := by rw [List.length_take]; exact Nat.le_trans (Nat.min_le_left _ _) h
    calc [("" : Str)].length * 2 ^ (L4.take n).length ≤ 1 * 2 ^ 4 := Nat.mul_le_mul (by decide) (Nat.pow_le_pow_right (by decide) this)
      _ ≤ 16 := by decide
  · intro s hs
    rw [List.mem_singleton] at hs
    subst hs
    have : (L4.take n).length ≤ 4 := by rw [List.length_take]; exact Nat.le_trans (Nat.min_le_left _ _) h
    have e : Str.length "" = 0 := by decide
    omega
  · conv => whnf
    rw [strsOf_map]
    conv => whnf
    exact ⟨Nat.lt_of_le_of_lt (gen_len h) (by decide), hq⟩
theorem F__law_sets_r {n : Nat} {S : Sto} (h : n ≤ 4) : Ret (F__law_sets [.int n]) S (.lst ((setsL n).map D.str)) := by
  intro Q E hq
  rw [F__law_sets_eq]
  delta m__law_sets
  conv => whnf
  refine ⟨sz (by decide), ?_⟩
  conv => whnf
  refine ⟨sz (by decide), ?_⟩
  show forT (gN 2) genB (chars (cutS "abcd" none (some (n : Int)))) [.va (.int n), .va (.lst ([("" : Str)].map D.str)), .un, .un] S _ _
  rw [letters_n h]
  have hl : (L4.take n).length ≤ 4 := by rw [List.length_take]; exact Nat.le_trans (Nat.min_le_left _ _) h
  refine gen_loop _ _ _ _ S ?_ ?_ (take_len h) fun a b => ?_
  · calc [("" : Str)].length * 2 ^ (L4.take n).length ≤ 1 * 2 ^ 4 := Nat.mul_le_mul (by decide) (Nat.pow_le_pow_right (by decide) hl)
      _ ≤ 16 := by decide
  · intro s hs
    rw [List.mem_singleton] at hs
    subst hs
    have e : Str.length "" = 0 := by decide
    omega
  · conv => whnf
    rw [strsOf_map]
    conv => whnf
    exact ⟨Nat.lt_of_le_of_lt (gen_len h) (by decide), hq⟩
/-! ### a good set -/
def canon (n : Nat) (s : Str) : Str := Str.join "" ((L4.take n).filter fun c => strIn c s)
theorem eqD_str (a b : Str) : eqD (.str a) (.str b) = decide (a = b) := by
  show (a == b) = decide (a = b)
  by_cases h : a = b
  · simp [h]
  · simp [h]
theorem filter_str {p : D → Bool} {l : List Str} : (l.map D.str).filter p = (l.filter fun s => p (.str s)).map D.str := by
  rw [List.filter_map]; rfl
theorem len_sum : ∀ (l : List Str), (∀ c ∈ l, c.length = 1) → (l.map (·.length)).sum = l.length
  | [], _ => rfl
  | c :: r, h => by
    rw [List.map_cons, List.sum_cons, h c List.mem_cons_self, len_sum r fun c hc => h c (List.mem_cons_of_mem _ hc), List.length_cons, Nat.add_comm]
/-- what is_good_set says -/
def goodB (n : Nat) : D → Bool
  | .str s => decide (s = canon n s)
  | _ => false
def okT (d : D) : Prop := ∃ t, tyN d = some t ∧ (kitB t "str" = some (decide (t = "str"))) ∧ kitB t "tuple" = some (decide (t = "tuple")) ∧ (t = "str" → ∃ s, d = .str s) ∧ (t = "tuple" → ∃ xs, d = .tup xs)
theorem F_is_good_set_r {n : Nat} {d : D} {S : Sto} (h : n ≤ 4) (hd : ∃ t, tyN d = some t) : Ret (F_is_good_set [.int n, d]) S (.bl (goodB n d)) := by
  intro Q E hq
  rw [F_is_good_set_eq]
  delta m_is_good_set
  cases d with
  | str s =>
    conv => whnf
    refine ite_f rfl ?_
    conv => whnf
    refine ⟨sz (by decide), ?_⟩
    conv => whnf
    rw [letters_n h]
    have hl : (L4.take n).length ≤ 4 := by rw [List.length_take]; exact Nat.le_trans (Nat.min_le_left _ _) h
    refine ⟨sz (by rw [List.length_map]; omega), ?_⟩
    show lcT _ _ _ _ _ S _ _
    refine lc_n (fun d => match d with | .str c => strIn c s | _ => false) id (fun d hd => ?_) (fun d hd _ => ?_) _ _ ?_
    · obtain ⟨c, hc, rfl⟩ := List.mem_map.mp hd
      intro Q E hq
      conv => whnf
      exact hq
    · obtain ⟨c, hc, rfl⟩ := List.mem_map.mp hd
      intro Q E hq
      conv => whnf
      exact hq
    · rw [filter_str, List.map_id]
      conv => whnf
      have e : strsIn (.lst (((L4.take n).filter fun c => strIn c s).map D.str)) = some ((L4.take n).filter fun c => strIn c s) := strsOf_map _
      refine opt_s e ?_
      conv => whnf
      have hf : ((L4.take n).filter fun c => strIn c s).length ≤ 4 := Nat.le_trans (List.length_filter_le _ _) hl
      have e0 : Str.length "" = 0 := by decide
      refine ⟨?_, ?_⟩
      · rw [len_sum _ fun c hc => take_len h c (List.mem_filter.mp hc).1, e0]; omega
      · conv => whnf
        refine ⟨.inl rfl, ?_⟩
        conv => whnf
        show Q (.bl (eqD (.str s) (.str (canon n s)))) S
        rw [eqD_str]
        exact hq
  | non => conv => whnf
           exact ite_t rfl hq
  | bl _ => conv => whnf
            exact ite_t rfl hq
  | int _ => conv => whnf
             exact ite_t rfl hq
  | tup _ => conv => whnf
             exact ite_t rfl hq
  | lst _ => conv => whnf
             exact ite_t rfl hq
  | _ => obtain ⟨t, ht⟩ := hd; cases ht
theorem canon_in : ∀ n ≤ 4, ∀ s ∈ setsL n, s = canon n s := by decide +kernel
def selS (n : Nat) (p : Nat → Bool) : List Str := (((List.range n).filter p).map fun i => (⟨#[97 + i]⟩ : Str))
theorem take_L4 {n : Nat} (h : n ≤ 4) : L4.take n = (List.range n).map fun i => (⟨#[97 + i]⟩ : Str) := by
  match n, h with
  | 0, _ => rfl
  | 1, _ => rfl
  | 2, _ => rfl
  | 3, _ => rfl
  | 4, _ => rfl
theorem sel_in : ∀ n ≤ 4, ∀ a b c d : Bool, Str.join "" ((L4.take n).filter fun s => if s = ⟨#[97]⟩ then a else if s = ⟨#[98]⟩ then b else if s = ⟨#[99]⟩ then c else d) ∈ setsL n := by decide +kernel
theorem in_canon {n : Nat} (h : n ≤ 4) (s : Str) : canon n s ∈ setsL n := by
  have k := sel_in n h (strIn ⟨#[97]⟩ s) (strIn ⟨#[98]⟩ s) (strIn ⟨#[99]⟩ s) (strIn ⟨#[100]⟩ s)
  have e : ((L4.take n).filter fun c => strIn c s) = (L4.take n).filter fun t => if t = ⟨#[97]⟩ then strIn ⟨#[97]⟩ s else if t = ⟨#[98]⟩ then strIn ⟨#[98]⟩ s else if t = ⟨#[99]⟩ then strIn ⟨#[99]⟩ s else strIn ⟨#[100]⟩ s := by
    refine List.filter_congr fun c hc => ?_
    have : c ∈ L4 := List.mem_of_mem_take hc
    simp only [L4, List.mem_cons, List.mem_nil_iff, or_false] at this
    rcases this with rfl | rfl | rfl | rfl <;> simp
  unfold canon
  rw [e]
  exact k
theorem canon_iff {n : Nat} (h : n ≤ 4) (s : Str) : s = canon n s ↔ s ∈ setsL n := ⟨fun e => e ▸ in_canon h s, fun m => canon_in n h s m⟩
end Em


set_option Elab.async false
set_option linter.all false
set_option maxRecDepth 100000
set_option maxHeartbeats 4000000
namespace Em
open PySem PySem.Spec PyProof.Rows L2 DL OrdS
/-! ### values of any kind, of a size -/
def okA (b : Nat) : D → Prop
  | .non => True
  | .bl _ => True
  | .int _ => True
  | .str s => s.length ≤ b ∧ PyData.strOk s = true
  | _ => False
def okV : Nat → Nat → D → Prop
  | 0, b, d => okA b d
  | k + 1, b, .tup xs => xs.length ≤ b ∧ ∀ x ∈ xs, okV k b x
  | k + 1, b, .lst xs => xs.length ≤ b ∧ ∀ x ∈ xs, okV k b x
  | _ + 1, b, d => okA b d
theorem okA.up {b c : Nat} (h : b ≤ c) : ∀ {d : D}, okA b d → okA c d
  | .non, _ => True.intro
  | .bl _, _ => True.intro
  | .int _, _ => True.intro
  | .str s, h' => ⟨Nat.le_trans h'.1 h, h'.2⟩
theorem okA.v {b : Nat} : ∀ {k : Nat} {d : D}, okA b d → okV k b d
  | 0, _, h => h
  | _ + 1, .non, h => h
  | _ + 1, .bl _, h => h
  | _ + 1, .int _, h => h
  | _ + 1, .str _, h => h
theorem okV.up {b c : Nat} (h : b ≤ c) : ∀ {k j : Nat} {d : D}, k ≤ j → okV k b d → okV j c d
  | 0, j, d, _, h' => (okA.up h h').v
  | k + 1, 0, d, hk, _ => absurd hk (by omega)
  | k + 1, j + 1, .tup xs, hk, h' => ⟨Nat.le_trans h'.1 h, fun x hx => okV.up h (by omega) (h'.2 x hx)⟩
  | k + 1, j + 1, .lst xs, hk, h' => ⟨Nat.le_trans h'.1 h, fun x hx => okV.up h (by omega) (h'.2 x hx)⟩
  | k + 1, j + 1, .non, _, h' => h'
  | k + 1, j + 1, .bl _, _, h' => h'
  | k + 1, j + 1, .int _, _, h' => h'
  | k + 1, j + 1, .str _, _, h' => okA.up h (d := .str _) h'
theorem okV.ty {k b : Nat} {d : D} (h : okV k b d) : ∃ t, tyN d = some t := by
  cases k <;> cases d <;> first | exact ⟨_, rfl⟩ | exact h.elim
theorem okV.p : ∀ {k b : Nat} {d : D}, okV k b d → ∃ p, toP d = some p ∧ p.canLay0 = true ∧ p.depth ≤ k := by
  intro k
  induction k with
  | zero =>
    intro b d h
    cases d with
    | non => exact ⟨.none, rfl, rfl, Nat.le_refl _⟩
    | bl q => exact ⟨.bool q, rfl, rfl, Nat.le_refl _⟩
    | int i => exact ⟨.int i, rfl, rfl, Nat.le_refl _⟩
    | str s => exact ⟨.str s, rfl, h.2, Nat.le_refl _⟩
    | _ => exact h.elim
  | succ k ih =>
    intro b d h
    have all : ∀ {xs : List D}, (∀ x ∈ xs, okV k b x) → ∃ ps, toPs xs = some ps ∧ PyData.canLayAll0 ps = true ∧ PyData.depthAll ps ≤ k := by
      intro xs
      induction xs with
      | nil => exact fun _ => ⟨[], rfl, rfl, Nat.zero_le _⟩
      | cons x r ihr =>
        intro hx
        obtain ⟨p, h1, h2, h3⟩ := ih (hx x List.mem_cons_self)
        obtain ⟨ps, e1, e2, e3⟩ := ihr fun y hy => hx y (List.mem_cons_of_mem _ hy)
        refine ⟨p :: ps, by unfold toPs; rw [h1, e1], ?_, ?_⟩
        · show (p.canLay0 && PyData.canLayAll0 ps) = true
          rw [h2, e2]; rfl
        · show max p.depth (PyData.depthAll ps) ≤ k
          exact Nat.max_le.mpr ⟨h3, e3⟩
    cases d with
    | tup xs =>
      obtain ⟨ps, e1, e2, e3⟩ := all h.2
      refine ⟨.tuple ps, by unfold toP; rw [e1]; rfl, e2, ?_⟩
      show PyData.depthAll ps + 1 ≤ k + 1
      omega
    | lst xs =>
      obtain ⟨ps, e1, e2, e3⟩ := all h.2
      refine ⟨.list ps, by unfold toP; rw [e1]; rfl, e2, ?_⟩
      show PyData.depthAll ps + 1 ≤ k + 1
      omega
    | non => exact ⟨.none, rfl, rfl, Nat.zero_le _⟩
    | bl q => exact ⟨.bool q, rfl, rfl, Nat.zero_le _⟩
    | int i => exact ⟨.int i, rfl, rfl, Nat.zero_le _⟩
    | str s => exact ⟨.str s, rfl, h.2, Nat.zero_le _⟩
    | _ => exact h.elim
theorem okV.ok {k b : Nat} {d : D} (hk : k ≤ 64) (h : okV k b d) : okD d = true := by
  obtain ⟨p, h1, h2, h3⟩ := h.p
  unfold okD
  rw [h1]
  show SeqAt.shaped p = true
  exact Bool.and_eq_true_iff.mpr ⟨h2, decide_eq_true (Nat.le_trans h3 hk)⟩
end Em


set_option Elab.async false
set_option linter.all false
set_option maxRecDepth 100000
set_option maxHeartbeats 4000000
namespace Em
open PySem PySem.Spec PyProof.Rows L2 DL OrdS
/-! ### a good family -/
theorem cut1 (xs : List D) : DL.cutD xs (some 1) none = xs.tail := by
  unfold DL.cutD
  rw [show (some (1 : Int)) = some ((1 : Nat) : Int) from rfl, HT.sIx_nat, HT.sIx_none]
  cases xs with
  | nil => rfl
  | cons a r =>
    have e : min 1 (a :: r).length = 1 := by rw [List.length_cons]; omega
    rw [e, List.drop_succ_cons, List.drop_zero, List.take_of_length_le (by rw [List.length_cons]; omega)]
    rfl
/-- texts rising strictly, neighbour by neighbour -/
def adjB : List Str → Bool
  | a :: b :: r => lts a b && adjB (b :: r)
  | _ => true
theorem adj_iff : ∀ l : List Str, adjB l = true ↔ l.Pairwise Lt
  | [] => ⟨fun _ => .nil, fun _ => rfl⟩
  | [a] => ⟨fun _ => List.pairwise_singleton _ _, fun _ => rfl⟩
  | a :: b :: r => by
    have ih := adj_iff (b :: r)
    rw [adjB, Bool.and_eq_true, ih]
    constructor
    · rintro ⟨h1, h2⟩
      refine List.pairwise_cons.mpr ⟨fun x hx => ?_, h2⟩
      rcases List.mem_cons.mp hx with rfl | hx
      · exact h1
      · exact lts_tr h1 ((List.pairwise_cons.mp h2).1 x hx)
    · intro h
      exact ⟨(List.pairwise_cons.mp h).1 b List.mem_cons_self, (List.pairwise_cons.mp h).2⟩
def pairLt : D → D
  | .tup [.str a, .str b] => .bl (lts a b)
  | d => d
theorem zip_adj : ∀ l : List Str, ∃ bs : List Bool, (zipD (l.map D.str) (l.map D.str).tail).map pairLt = bs.map D.bl ∧ bs.all id = adjB l
  | [] => ⟨[], rfl, rfl⟩
  | [a] => ⟨[], rfl, rfl⟩
  | a :: b :: r => by
    obtain ⟨bs, h1, h2⟩ := zip_adj (b :: r)
    exact ⟨lts a b :: bs, by
      show pairLt (.tup [.str a, .str b]) :: (zipD ((b :: r).map D.str) ((b :: r).map D.str).tail).map pairLt = _
      rw [h1]; rfl, by
      show (lts a b && bs.all id) = _
      rw [h2]; rfl⟩
/-- what is_good_family says -/
def famB (n : Nat) : D → Bool
  | .tup xs => xs.all (goodB n) && match strsOf xs with
    | some ss => adjB ss
    | none => false
  | _ => false
theorem good_strs {n : Nat} : ∀ {xs : List D}, xs.all (goodB n) = true → ∃ ss : List Str, xs = ss.map D.str
  | [], _ => ⟨[], rfl⟩
  | x :: r, h => by
    rw [List.all_cons, Bool.and_eq_true] at h
    obtain ⟨ss, rfl⟩ := good_strs h.2
    cases x with
    | str s => exact ⟨s :: ss, rfl⟩
    | _ => cases h.1
end Em


set_option Elab.async false
set_option linter.all false
set_option maxRecDepth 100000
set_option maxHeartbeats 4000000
namespace Em
open PySem PySem.Spec PyProof.Rows L2 DL OrdS
/-! ### the law's own reading -/
theorem eqD_any (s : Str) (l : List Str) : ((l.map D.str).any fun z => eqD z (.str s)) = decide (s ∈ l) := by
  induction l with
  | nil => rfl
  | cons a r ih =>
    rw [List.map_cons, List.any_cons, ih, eqD_str]
    by_cases h : a = s
    · subst h; simp
    · have h' : ¬ s = a := fun e => h e.symm
      simp [h, h']
theorem flat_strs (l : List Str) : (l.map D.str).all flatD = true := by
  rw [List.all_map, List.all_eq_true]; exact fun _ _ => rfl
theorem eqvAll_strs : ∀ a b : List Str, PyData.eqvAll (a.map PyData.str) (b.map PyData.str) = decide (a = b)
  | [], [] => rfl
  | [], _ :: _ => rfl
  | _ :: _, [] => rfl
  | x :: a, y :: b => by
    show ((x == y) && PyData.eqvAll (a.map PyData.str) (b.map PyData.str)) = _
    rw [eqvAll_strs a b]
    by_cases h : x = y
    · subst h; simp
    · simp [h]
theorem toPs_strs : ∀ l : List Str, toPs (l.map D.str) = some (l.map PyData.str)
  | [] => rfl
  | x :: l => by
    rw [List.map_cons]
    unfold toPs
    rw [toPs_strs l]; rfl
theorem eqD_lst (a b : List Str) : eqD (.lst (a.map D.str)) (.lst (b.map D.str)) = decide (a = b) := by
  unfold eqD toP
  rw [toPs_strs, toPs_strs]
  exact eqvAll_strs a b
theorem eqD_tup (a b : List Str) : eqD (.tup (a.map D.str)) (.tup (b.map D.str)) = decide (a = b) := by
  unfold eqD toP
  rw [toPs_strs, toPs_strs]
  exact eqvAll_strs a b
theorem sets_pw {n : Nat} (h : n ≤ 4) : (setsL n).Pairwise Lt := by
  have k : ∀ n ≤ 4, adjB (setsL n) = true := by decide +kernel
  exact (adj_iff _).mp (k n h)
theorem sets_len {n : Nat} (h : n ≤ 4) : (setsL n).length ≤ 16 := by
  have k : ∀ n ≤ 4, (setsL n).length ≤ 16 := by decide +kernel
  exact k n h
theorem sets_ok {n : Nat} (h : n ≤ 4) : ∀ s ∈ setsL n, s.length ≤ 4 ∧ PyData.strOk s = true := by
  have k : ∀ n ≤ 4, ∀ s ∈ setsL n, s.length ≤ 4 ∧ PyData.strOk s = true := by decide +kernel
  exact k n h
theorem sset_in {n : Nat} (h : n ≤ 4) {ss : List Str} (hs : ∀ s ∈ ss, s ∈ setsL n) : sset ss = (setsL n).filter fun s => decide (s ∈ ss) :=
  (sset_unique ((sets_pw h).filter _) fun x => by
    rw [List.mem_filter, decide_eq_true_eq]
    exact ⟨fun q => q.2, fun q => ⟨hs x q, q⟩⟩).symm
theorem sset_len {n : Nat} (h : n ≤ 4) {ss : List Str} (hs : ∀ s ∈ ss, s ∈ setsL n) : (sset ss).length ≤ 16 := by
  rw [sset_in h hs]
  exact Nat.le_trans (List.length_filter_le _ _) (sets_len h)
theorem okV_strs {ss : List Str} {b : Nat} (hl : ss.length ≤ b) (h : ∀ s ∈ ss, s.length ≤ b ∧ PyData.strOk s = true) : okV 1 b (.lst (ss.map D.str)) :=
  ⟨by rw [List.length_map]; exact hl, fun x hx => by obtain ⟨s, hs, rfl⟩ := List.mem_map.mp hx; exact h s hs⟩
theorem eqD_nil {ys : List D} (h : okD (.lst ys) = true) : eqD (.lst ys) (.lst []) = ys.isEmpty := by
  cases ys with
  | nil => rfl
  | cons y r =>
    obtain ⟨p, hp, _⟩ := okD_some h
    unfold toP at hp
    cases q : toPs (y :: r) with
    | none => rw [q] at hp; cases hp
    | some ps =>
      unfold eqD toP
      rw [q]
      cases ps with
      | nil =>
        unfold toPs at q
        split at q
        · cases q
        · cases q
      | cons p ps => rfl
end Em


set_option Elab.async false
set_option linter.all false
set_option maxRecDepth 100000
set_option maxHeartbeats 4000000
namespace Em
open PySem PySem.Spec PyProof.Rows L2 DL OrdS
theorem F__law_draw_r {a : Addr} {m : Int} {S : Sto} (hs : S a = some .src) (m0 : 0 < m) (m1 : m < 1073741824) : Rets (F__law_draw [.ref a, .int m]) S fun d => ∃ r, d = .int r ∧ 0 ≤ r ∧ r < m := by
  intro Q E hq
  have fin : ∀ i : Int, Q (.int (i % m)) S := fun i => hq _ ⟨_, rfl, Int.emod_nonneg _ (by omega), Int.emod_lt_of_pos _ m0⟩
  rw [F__law_draw_eq]
  delta m__law_draw
  conv => whnf
  refine ix_src0 hs fun c c0 c1 => ?_
  conv => whnf
  refine ite_i (fun h => ?_) (fun h => ?_)
  · conv => whnf
    refine ix_src0 hs fun c' c0' c1' => ?_
    conv => whnf
    refine ⟨m0, ?_⟩
    conv => whnf
    refine ix_src0 hs fun d d0 d1 => ?_
    conv => whnf
    refine ⟨⟨m0, m1⟩, ?_⟩
    conv => whnf
    refine put_src0 hs (Int.ediv_nonneg d0 (by omega)) (Int.lt_of_le_of_lt (Int.ediv_le_self _ d0) d1) ?_
    conv => whnf
    exact fin _
  · conv => whnf
    refine ix_src1 hs fun c' c0' c1' => ?_
    conv => whnf
    refine ⟨by unfold CMul; omega, ?_⟩
    conv => whnf
    refine ⟨by omega, ?_⟩
    conv => whnf
    refine put_src1 hs (Int.emod_nonneg _ (by omega)) (Int.lt_trans (Int.emod_lt_of_pos _ (by omega)) (by omega)) ?_
    conv => whnf
    refine ix_src1 hs fun d d0 d1 => ?_
    conv => whnf
    refine ix_src1 hs fun e e0 e1 => ?_
    conv => whnf
    refine ⟨by unfold CMul; omega, ?_⟩
    conv => whnf
    refine ⟨by omega, ?_⟩
    conv => whnf
    refine ⟨by unfold CDiv; omega, ?_⟩
    conv => whnf
    refine ⟨m0, ?_⟩
    conv => whnf
    exact fin _
theorem atI_nat {α : Type} {l : List α} {i : Nat} (h : i < l.length) : L2.atI l (i : Int) = some l[i] := by
  unfold L2.atI ixN
  simp [h]
theorem F__law_source_r {ns : List Int} {k : Nat} {S : Sto} {Q : D → Sto → Prop} {E : Xn → Sto → Prop} (hb : ∀ z ∈ ns, Builtin.Int.intBits z ≤ 1048576) (hk : k ≤ 64) (hl : ns.length ≤ 63)
    (hq : ∀ a, S a = none → Q (.ref a) (S.up a .src)) : F__law_source [.frz (ns.map D.int), .int k] S Q E := by
  rw [F__law_source_eq]
  delta m__law_source
  conv => whnf
  have fin : ∀ c : Int, 0 ≤ c → c < 2 ^ srcBits → ∀ s : Int, srcR c (1 + s % 2147483646) S (fun a S' => outD a S' Q E) E := fun c c0 c1 s => by
    refine ⟨⟨c0, c1, ?_, ?_⟩, fun a ha => hq a ha⟩
    · have := Int.emod_nonneg s (b := 2147483646) (by decide); omega
    · have := Int.emod_lt_of_pos s (b := 2147483646) (by decide); omega
  have pw : CPow 10 18 := ⟨by decide, by decide, by decide⟩
  refine ite_i (fun h => ?_) (fun h => ?_)
  · have hk' : k < (ns.map D.int).length := by have := of_decide_eq_true h; omega
    conv => whnf
    refine opt_s (atI_nat hk') ?_
    rw [List.getElem_map]
    have hz := src_lt (hb (ns[k]'(by simpa using hk')) (List.getElem_mem _))
    generalize ns[k]'(by simpa using hk') = z at hz
    conv => whnf
    refine ⟨pw, ?_⟩
    conv => whnf
    refine ite_i (fun h => ?_) (fun h => ?_)
    · conv => whnf
      refine ⟨by unfold CMul; omega, ?_⟩
      conv => whnf
      refine ⟨by unfold CMul; omega, ?_⟩
      conv => whnf
      refine ⟨by omega, ?_⟩
      conv => whnf
      refine ⟨sz (n := 2) (by decide), ?_⟩
      exact fin _ (by omega) (Int.pow_pos (by decide)) _
    · conv => whnf
      refine ⟨by omega, ?_⟩
      conv => whnf
      refine ⟨sz (n := 2) (by decide), ?_⟩
      exact fin _ hz.2 hz.1 _
  · conv => whnf
    refine ⟨pw, ?_⟩
    conv => whnf
    refine ite_i (fun h => ?_) (fun h => ?_)
    · conv => whnf
      refine ⟨by unfold CMul; omega, ?_⟩
      conv => whnf
      refine ⟨by unfold CMul; omega, ?_⟩
      conv => whnf
      refine ⟨by omega, ?_⟩
      conv => whnf
      refine ⟨sz (n := 2) (by decide), ?_⟩
      exact fin _ (by omega) (Int.pow_pos (by decide)) _
    · conv => whnf
      refine ⟨by omega, ?_⟩
      conv => whnf
      refine ⟨sz (n := 2) (by decide), ?_⟩
      exact fin _ (by omega) (Int.pow_pos (by decide)) _
theorem F__law_of_r {a : Addr} {ds : List D} {S : Sto} (hs : S a = some .src) (h0 : 0 < ds.length) (h1 : ds.length < 1073741824) : Rets (F__law_of [.ref a, .lst ds]) S fun d => d ∈ ds := by
  intro Q E hq
  rw [F__law_of_eq]
  delta m__law_of
  conv => whnf
  refine ⟨rfl, ?_⟩
  refine F__law_draw_r hs (by omega) (by omega) _ _ fun d hd => ?_
  obtain ⟨r, rfl, r0, r1⟩ := hd
  conv => whnf
  have hr : r.toNat < ds.length := by omega
  have e : r = (r.toNat : Int) := by omega
  rw [e]
  refine opt_s (atI_nat hr) ?_
  exact hq _ (List.getElem_mem _)
end Em


set_option Elab.async false
set_option linter.all false
set_option maxRecDepth 100000
set_option maxHeartbeats 4000000
namespace Em
open PySem PySem.Spec PyProof.Rows L2 DL OrdS
/-! ### values spoilt -/
def okAb (b : Nat) : D → Bool
  | .non => true
  | .bl _ => true
  | .int _ => true
  | .str s => decide (s.length ≤ b) && PyData.strOk s
  | _ => false
def okVb : Nat → Nat → D → Bool
  | 0, b, d => okAb b d
  | k + 1, b, .tup xs => decide (xs.length ≤ b) && xs.all (okVb k b)
  | k + 1, b, .lst xs => decide (xs.length ≤ b) && xs.all (okVb k b)
  | _ + 1, b, d => okAb b d
theorem okAb_ok {b : Nat} : ∀ {d : D}, okAb b d = true → okA b d
  | .non, _ => True.intro
  | .bl _, _ => True.intro
  | .int _, _ => True.intro
  | .str s, h => by
    have h := Bool.and_eq_true_iff.mp h
    exact ⟨of_decide_eq_true h.1, h.2⟩
theorem okVb_ok : ∀ {k b : Nat} {d : D}, okVb k b d = true → okV k b d
  | 0, b, d, h => okAb_ok h
  | k + 1, b, .tup xs, h => by
    have h := Bool.and_eq_true_iff.mp h
    exact ⟨of_decide_eq_true h.1, fun x hx => okVb_ok (List.all_eq_true.mp h.2 x hx)⟩
  | k + 1, b, .lst xs, h => by
    have h := Bool.and_eq_true_iff.mp h
    exact ⟨of_decide_eq_true h.1, fun x hx => okVb_ok (List.all_eq_true.mp h.2 x hx)⟩
  | k + 1, b, .non, h => True.intro
  | k + 1, b, .bl _, h => True.intro
  | k + 1, b, .int _, h => True.intro
  | k + 1, b, .str s, h => okAb_ok (d := .str s) h
theorem cut_to {xs : List D} {i : Nat} : DL.cutD xs none (some (i : Int)) = xs.take i := by
  unfold DL.cutD
  rw [HT.sIx_nat, HT.sIx_none, List.drop_zero, Nat.sub_zero]
  by_cases h : i ≤ xs.length
  · rw [Nat.min_eq_left h]
  · rw [Nat.min_eq_right (by omega), List.take_length, List.take_of_length_le (by omega)]
theorem cut_from {xs : List D} {i : Nat} : DL.cutD xs (some (i : Int)) none = xs.drop i := by
  unfold DL.cutD
  rw [HT.sIx_nat, HT.sIx_none]
  by_cases h : i ≤ xs.length
  · rw [Nat.min_eq_left h, List.take_of_length_le (by rw [List.length_drop]; exact Nat.le_refl _)]
  · rw [Nat.min_eq_right (by omega), Nat.sub_self, List.take_zero, List.drop_eq_nil_of_le (by omega)]
theorem cutS_to {x : Str} {i : Nat} : cutS x none (some (i : Int)) = ⟨(x.cps.toList.take i).toArray⟩ := by
  unfold cutS
  rw [HT.sIx_nat, HT.sIx_none, List.drop_zero, Nat.sub_zero]
  have e : x.length = x.cps.toList.length := Array.length_toList.symm
  by_cases h : i ≤ x.length
  · rw [Nat.min_eq_left h]
  · rw [Nat.min_eq_right (by omega), e, List.take_length, List.take_of_length_le (by omega)]
theorem cutS_from {x : Str} {i : Nat} : cutS x (some (i : Int)) none = ⟨(x.cps.toList.drop i).toArray⟩ := by
  unfold cutS
  rw [HT.sIx_nat, HT.sIx_none]
  have e : x.length = x.cps.toList.length := Array.length_toList.symm
  by_cases h : i ≤ x.length
  · rw [Nat.min_eq_left h, List.take_of_length_le (by rw [List.length_drop, e]; exact Nat.le_refl _)]
  · rw [Nat.min_eq_right (by omega), Nat.sub_self, List.take_zero, List.drop_eq_nil_of_le (by omega)]
theorem strOk_list {l : List Nat} : PyData.strOk ⟨l.toArray⟩ = l.all (· < 0x110000) := by
  unfold PyData.strOk
  simp
theorem strOk_sub {x : Str} {l : List Nat} (h : PyData.strOk x = true) (hs : ∀ c ∈ l, c ∈ x.cps.toList) : PyData.strOk ⟨l.toArray⟩ = true := by
  rw [strOk_list, List.all_eq_true]
  intro c hc
  have : x = ⟨x.cps.toList.toArray⟩ := by simp
  rw [this, strOk_list, List.all_eq_true] at h
  exact h c (hs c hc)
theorem strOk_app {x y : Str} (h : PyData.strOk x = true) (h' : PyData.strOk y = true) : PyData.strOk (x ++ y) = true := by
  have e : x ++ y = ⟨(x.cps.toList ++ y.cps.toList).toArray⟩ := by
    show (⟨x.cps ++ y.cps⟩ : Str) = _
    simp
  have hx : x = ⟨x.cps.toList.toArray⟩ := by simp
  have hy : y = ⟨y.cps.toList.toArray⟩ := by simp
  rw [hx, strOk_list] at h
  rw [hy, strOk_list] at h'
  rw [e, strOk_list, List.all_append, h, h']; rfl
theorem eqD_tnil {ys : List D} (h : okD (.tup ys) = true) : eqD (.tup ys) (.tup []) = ys.isEmpty := by
  cases ys with
  | nil => rfl
  | cons y r =>
    obtain ⟨p, hp, _⟩ := okD_some h
    unfold toP at hp
    cases q : toPs (y :: r) with
    | none => rw [q] at hp; cases hp
    | some ps =>
      unfold eqD toP
      rw [q]
      cases ps with
      | nil =>
        unfold toPs at q
        split at q
        · cases q
        · cases q
      | cons p ps => rfl
end Em


set_option Elab.async false
set_option linter.all false
set_option maxRecDepth 100000
set_option maxHeartbeats 4000000
namespace Em
open PySem PySem.Spec PyProof.Rows L2 DL OrdS
/-! ### a number of letters asked -/
def numB (lo hi : Int) : D → Bool
  | .int n => decide (lo ≤ n) && decide (n ≤ hi)
  | _ => false
theorem F_is_number_r {d : D} {lo hi : Int} {S : Sto} (hd : ∃ t, tyN d = some t) : Ret (F_is_number [d, .int lo, .int hi]) S (.bl (numB lo hi d)) := by
  intro Q E hq
  rw [F_is_number_eq]
  delta m_is_number
  cases d with
  | int n =>
    conv => whnf
    refine ite_t rfl ?_
    conv => whnf
    refine ite_t rfl ?_
    conv => whnf
    have e : numB lo hi (.int n) = (decide (lo ≤ n) && decide (n ≤ hi)) := rfl
    rw [e] at hq
    refine ite_i (fun h => ?_) (fun h => ?_)
    · rw [h, Bool.true_and] at hq
      conv => whnf
      exact hq
    · rw [h, Bool.false_and] at hq
      conv => whnf
      exact hq
  | bl b =>
    conv => whnf
    refine ite_t rfl ?_
    conv => whnf
    refine ite_f rfl ?_
    conv => whnf
    exact hq
  | non => conv => whnf
           exact ite_f rfl hq
  | str _ => conv => whnf
             exact ite_f rfl hq
  | tup _ => conv => whnf
             exact ite_f rfl hq
  | lst _ => conv => whnf
             exact ite_f rfl hq
  | _ => obtain ⟨t, ht⟩ := hd; cases ht
theorem F_need_letters_ok {n : Nat} {m : Int} {S : Sto} (h1 : 1 ≤ n) (h2 : (n : Int) ≤ m) : Ret (F_need_letters [.int n, .int m]) S .non := by
  intro Q E hq
  rw [F_need_letters_eq]
  delta m_need_letters
  conv => whnf
  refine ⟨rfl, F_is_number_r ⟨_, rfl⟩ _ _ ?_⟩
  conv => whnf
  refine ite_f ?_ ?_
  · show (!(decide ((1 : Int) ≤ n) && decide ((n : Int) ≤ m))) = false
    rw [decide_eq_true (by omega), decide_eq_true h2]; rfl
  · conv => whnf
    exact hq
theorem F_need_letters_bad {d : D} {m : Int} {S : Sto} {Q : D → Sto → Prop} {E : Xn → Sto → Prop} (hd : ∃ t, tyN d = some t) (hb : numB 1 m d = false) (he : E ⟨"InvalidLetters", []⟩ S) : F_need_letters [d, .int m] S Q E := by
  rw [F_need_letters_eq]
  delta m_need_letters
  conv => whnf
  refine ⟨rfl, F_is_number_r hd _ _ ?_⟩
  rw [hb]
  conv => whnf
  exact ite_t rfl he
/-! ### the law -/
theorem rng_mem {n : Nat} {lo : Int} {d : D} (h : d ∈ (List.range n).map fun (k : Nat) => D.int (lo + (k : Int))) : ∃ k : Nat, d = .int (lo + (k : Int)) ∧ k < n := by
  obtain ⟨k, hk, rfl⟩ := List.mem_map.mp h
  exact ⟨k, rfl, List.mem_range.mp hk⟩
end Em


set_option Elab.async false
set_option linter.all false
set_option maxRecDepth 100000
set_option maxHeartbeats 4000000
namespace Em
open PySem PySem.Spec PyProof.Rows L2 DL OrdS
/-! ### sets joined, met, less -/
theorem letters4 : chars "abcd" = L4.map D.str := by kernel_rfl
def lettersOf (s : Str) : List Str := s.cps.toList.map fun c => ⟨#[c]⟩
theorem chars_eq (s : Str) : chars s = (lettersOf s).map D.str := by
  unfold chars lettersOf
  rw [List.map_map]; rfl
theorem lettersOf_len (s : Str) : (lettersOf s).length = s.length := by
  unfold lettersOf
  rw [List.length_map, Array.length_toList]; rfl
theorem lettersOf_one (s : Str) : ∀ c ∈ lettersOf s, c.length = 1 := fun c hc => by
  obtain ⟨x, _, rfl⟩ := List.mem_map.mp hc; rfl
theorem L4_one : ∀ c ∈ L4, c.length = 1 := by decide
def joinS (s t : Str) : Str := Str.join "" (L4.filter fun c => strIn c s || strIn c t)
def metS (s t : Str) : Str := Str.join "" ((lettersOf s).filter fun c => strIn c t)
def lessS (s t : Str) : Str := Str.join "" ((lettersOf s).filter fun c => !strIn c t)
/-- behind a comprehension over letters: '' .join -/
theorem join_fin {l : List Str} {p : Str → Bool} {S : Sto} {Q : D → Sto → Prop} {E : Xn → Sto → Prop} (h1 : ∀ c ∈ l, c.length = 1) (hl : l.length ≤ 1000) (h : Q (.str (Str.join "" (l.filter p))) S) : dJoin "" (.lst ((l.filter p).map D.str)) S Q E := by
  unfold dJoin
  refine opt_s (show strsIn (.lst ((l.filter p).map D.str)) = some (l.filter p) from strsOf_map _) ?_
  have e0 : Str.length "" = 0 := by decide
  refine ⟨?_, h⟩
  have := List.length_filter_le p l
  rw [len_sum _ fun c hc => h1 c (List.mem_filter.mp hc).1, e0]; omega
def letP (p : Str → Bool) : D → Bool
  | .str c => p c
  | _ => false
theorem F_joined_r {s t : Str} {S : Sto} : Ret (F_joined [.str s, .str t]) S (.str (joinS s t)) := by
  intro Q E hq
  rw [F_joined_eq]
  delta m_joined
  conv => whnf
  rw [letters4]
  refine ⟨sz (by decide), ?_⟩
  show lcT _ _ _ _ _ S _ _
  refine lc_n (letP fun c => strIn c s || strIn c t) id (fun d hd => ?_) (fun d hd _ => ?_) _ _ ?_
  · obtain ⟨c, hc, rfl⟩ := List.mem_map.mp hd
    intro Q E hq
    have hq : Q (strIn c s || strIn c t) S := hq
    conv => whnf
    refine ite_i (fun h => ?_) (fun h => ?_)
    · have h : strIn c s = true := h
      rw [h, Bool.true_or] at hq
      exact hq
    · have h : strIn c s = false := h
      rw [h, Bool.false_or] at hq
      conv => whnf
      exact hq
  · intro Q E hq
    conv => whnf
    exact hq
  · rw [filter_str, List.map_id]
    exact join_fin L4_one (by decide) hq
theorem F_met_r {s t : Str} {S : Sto} (hs : s.length ≤ 100) : Ret (F_met [.str s, .str t]) S (.str (metS s t)) := by
  intro Q E hq
  rw [F_met_eq]
  delta m_met
  conv => whnf
  rw [chars_eq]
  refine ⟨sz (by rw [List.length_map, lettersOf_len]; omega), ?_⟩
  show lcT _ _ _ _ _ S _ _
  refine lc_n (letP fun c => strIn c t) id (fun d hd => ?_) (fun d hd _ => ?_) _ _ ?_
  · obtain ⟨c, hc, rfl⟩ := List.mem_map.mp hd
    intro Q E hq
    conv => whnf
    exact hq
  · intro Q E hq
    conv => whnf
    exact hq
  · rw [filter_str, List.map_id]
    exact join_fin (lettersOf_one s) (by rw [lettersOf_len]; omega) hq
theorem F_less_r {s t : Str} {S : Sto} (hs : s.length ≤ 100) : Ret (F_less [.str s, .str t]) S (.str (lessS s t)) := by
  intro Q E hq
  rw [F_less_eq]
  delta m_less
  conv => whnf
  rw [chars_eq]
  refine ⟨sz (by rw [List.length_map, lettersOf_len]; omega), ?_⟩
  show lcT _ _ _ _ _ S _ _
  refine lc_n (letP fun c => !strIn c t) id (fun d hd => ?_) (fun d hd _ => ?_) _ _ ?_
  · obtain ⟨c, hc, rfl⟩ := List.mem_map.mp hd
    intro Q E hq
    conv => whnf
    exact hq
  · intro Q E hq
    conv => whnf
    exact hq
  · rw [filter_str, List.map_id]
    exact join_fin (lettersOf_one s) (by rw [lettersOf_len]; omega) hq
end Em


set_option Elab.async false
set_option linter.all false
set_option maxRecDepth 100000
set_option maxHeartbeats 4000000
namespace Em
open PySem PySem.Spec PyProof.Rows L2 DL OrdS
theorem lc2_m {i j : Nat} {ms1 : MI} {vs1 : List Nat} {e : ME} {g : Sg} {S : Sto} (ds1 : List D) (v : D → D → D) (hl : ds1.length ≤ 1000) : ∀ {ds : List D}, (∀ d ∈ ds, Ret (ms1 (g.set i (.va d))) S ds1) → (∀ d ∈ ds, ∀ d1 ∈ ds1, Ret (e ((wipeG (g.set i (.va d)) vs1).set j (.va d1))) S (v d d1)) →
    Ret (lc2T (gN i) tY ms1 vs1 (gN j) tY e g ds) S (ds.flatMap fun d => ds1.map (v d))
  | [], _, _ => fun Q E h => h
  | d :: r, h1, h2 => fun Q E h => by
    have ih := lc2_m (i := i) (j := j) (vs1 := vs1) (e := e) ds1 v hl (ds := r) (fun d hd => h1 d (List.mem_cons_of_mem _ hd)) fun d hd => h2 d (List.mem_cons_of_mem _ hd)
    rw [List.flatMap_cons] at h
    refine T.iteT_ (h1 d List.mem_cons_self _ _ ⟨hl, ?_⟩)
    exact lc_m (v d) (h2 d List.mem_cons_self) _ _ (ih _ _ h)
theorem pairs_map {f : Str → Str → Str} {v : D → D → D} {A B : List Str} (h : ∀ s ∈ A, ∀ t ∈ B, v (.str s) (.str t) = .str (f s t)) : ((A.map D.str).flatMap fun d => (B.map D.str).map (v d)) = (A.flatMap fun s => B.map (f s)).map D.str := by
  induction A with
  | nil => rfl
  | cons s A ih =>
    rw [List.map_cons, List.flatMap_cons, List.flatMap_cons, List.map_append, ih fun s hs => h s (List.mem_cons_of_mem _ hs), List.map_map, List.map_map]
    congr 1
    exact List.map_congr_left fun t ht => h s List.mem_cons_self t ht
/-- a family: sets, each once, in order -/
structure IsFam (A : List Str) : Prop where
  mem : ∀ s ∈ A, s ∈ setsL 4
  pw : A.Pairwise Lt
theorem IsFam.len {A : List Str} (h : IsFam A) : A.length ≤ 16 := by
  have e := sset_self h.pw
  rw [← e]
  exact sset_len (by decide) h.mem
theorem IsFam.s4 {A : List Str} (h : IsFam A) {s : Str} (hs : s ∈ A) : s.length ≤ 4 := (sets_ok (n := 4) (by decide) s (h.mem s hs)).1
/-- all f s t, as a family -/
def madeS (f : Str → Str → Str) (A B : List Str) : List Str := sset (A.flatMap fun s => B.map (f s))
theorem pairs_len (f : Str → Str → Str) (A B : List Str) : (A.flatMap fun s => B.map (f s)).length = A.length * B.length := by
  induction A with
  | nil => simp
  | cons s A ih => rw [List.flatMap_cons, List.length_append, List.length_map, ih, List.length_cons, Nat.add_mul]; omega
theorem made_fam {f : Str → Str → Str} (hf : ∀ s ∈ setsL 4, ∀ t ∈ setsL 4, f s t ∈ setsL 4) {A B : List Str} (hA : IsFam A) (hB : IsFam B) : IsFam (madeS f A B) :=
  ⟨fun x hx => by
    have hx := (sset_mem x _).mp hx
    obtain ⟨s, hs, hx⟩ := List.mem_flatMap.mp hx
    obtain ⟨t, ht, rfl⟩ := List.mem_map.mp hx
    exact hf s (hA.mem s hs) t (hB.mem t ht), sset_pw _⟩
theorem join_in : ∀ s ∈ setsL 4, ∀ t ∈ setsL 4, joinS s t ∈ setsL 4 := by decide +kernel
theorem met_in : ∀ s ∈ setsL 4, ∀ t ∈ setsL 4, metS s t ∈ setsL 4 := by decide +kernel
theorem less_in : ∀ s ∈ setsL 4, ∀ t ∈ setsL 4, lessS s t ∈ setsL 4 := by decide +kernel
theorem F_joins_of_r {A B : List Str} {S : Sto} (hA : IsFam A) (hB : IsFam B) : Ret (F_joins_of [.tup (A.map D.str), .tup (B.map D.str)]) S (.tup ((madeS joinS A B).map D.str)) := by
  intro Q E hq
  rw [F_joins_of_eq]
  delta m_joins_of
  have lA := hA.len
  have lB := hB.len
  conv => whnf
  refine ⟨by rw [List.length_map]; omega, ?_⟩
  show lc2T _ _ _ _ _ _ _ _ _ S _ _
  refine lc2_m (B.map D.str) (fun d e => match d, e with | .str s, .str t => .str (joinS s t) | _, _ => .non) (by rw [List.length_map]; omega) (fun d hd Q E hq => hq) (fun d hd d1 hd1 => ?_) _ _ ?_
  · obtain ⟨s, hs, rfl⟩ := List.mem_map.mp hd
    obtain ⟨t, ht, rfl⟩ := List.mem_map.mp hd1
    intro Q E hq
    conv => whnf
    exact ⟨rfl, F_joined_r _ _ hq⟩
  · rw [pairs_map (f := joinS) fun _ _ _ _ => rfl]
    conv => whnf
    refine opt_s (show strsIn (.lst ((A.flatMap fun s => B.map (joinS s)).map D.str)) = some _ from strsOf_map _) ?_
    conv => whnf
    have fm := made_fam join_in hA hB
    refine ⟨⟨?_, Nat.lt_of_le_of_lt fm.len (by decide)⟩, hq⟩
    have e : scanBound = 4096 := rfl
    have : A.length * B.length ≤ 16 * 16 := Nat.mul_le_mul lA lB
    rw [pairs_len, e]; omega
end Em


set_option Elab.async false
set_option linter.all false
set_option maxRecDepth 100000
set_option maxHeartbeats 4000000
namespace Em
open PySem PySem.Spec PyProof.Rows L2 DL OrdS
theorem F_meets_of_r {A B : List Str} {S : Sto} (hA : IsFam A) (hB : IsFam B) : Ret (F_meets_of [.tup (A.map D.str), .tup (B.map D.str)]) S (.tup ((madeS metS A B).map D.str)) := by
  intro Q E hq
  rw [F_meets_of_eq]
  delta m_meets_of
  have lA := hA.len
  have lB := hB.len
  conv => whnf
  refine ⟨by rw [List.length_map]; omega, ?_⟩
  show lc2T _ _ _ _ _ _ _ _ _ S _ _
  refine lc2_m (B.map D.str) (fun d e => match d, e with | .str s, .str t => .str (metS s t) | _, _ => .non) (by rw [List.length_map]; omega) (fun d hd Q E hq => hq) (fun d hd d1 hd1 => ?_) _ _ ?_
  · obtain ⟨s, hs, rfl⟩ := List.mem_map.mp hd
    obtain ⟨t, ht, rfl⟩ := List.mem_map.mp hd1
    intro Q E hq
    conv => whnf
    exact ⟨rfl, F_met_r (by have := hA.s4 hs; omega) _ _ hq⟩
  · rw [pairs_map (f := metS) fun _ _ _ _ => rfl]
    conv => whnf
    refine opt_s (show strsIn (.lst ((A.flatMap fun s => B.map (metS s)).map D.str)) = some _ from strsOf_map _) ?_
    conv => whnf
    have fm := made_fam met_in hA hB
    refine ⟨⟨?_, Nat.lt_of_le_of_lt fm.len (by decide)⟩, hq⟩
    have e : scanBound = 4096 := rfl
    have : A.length * B.length ≤ 16 * 16 := Nat.mul_le_mul lA lB
    rw [pairs_len, e]; omega
theorem F_differences_of_r {A B : List Str} {S : Sto} (hA : IsFam A) (hB : IsFam B) : Ret (F_differences_of [.tup (A.map D.str), .tup (B.map D.str)]) S (.tup ((madeS lessS A B).map D.str)) := by
  intro Q E hq
  rw [F_differences_of_eq]
  delta m_differences_of
  have lA := hA.len
  have lB := hB.len
  conv => whnf
  refine ⟨by rw [List.length_map]; omega, ?_⟩
  show lc2T _ _ _ _ _ _ _ _ _ S _ _
  refine lc2_m (B.map D.str) (fun d e => match d, e with | .str s, .str t => .str (lessS s t) | _, _ => .non) (by rw [List.length_map]; omega) (fun d hd Q E hq => hq) (fun d hd d1 hd1 => ?_) _ _ ?_
  · obtain ⟨s, hs, rfl⟩ := List.mem_map.mp hd
    obtain ⟨t, ht, rfl⟩ := List.mem_map.mp hd1
    intro Q E hq
    conv => whnf
    exact ⟨rfl, F_less_r (by have := hA.s4 hs; omega) _ _ hq⟩
  · rw [pairs_map (f := lessS) fun _ _ _ _ => rfl]
    conv => whnf
    refine opt_s (show strsIn (.lst ((A.flatMap fun s => B.map (lessS s)).map D.str)) = some _ from strsOf_map _) ?_
    conv => whnf
    have fm := made_fam less_in hA hB
    refine ⟨⟨?_, Nat.lt_of_le_of_lt fm.len (by decide)⟩, hq⟩
    have e : scanBound = 4096 := rfl
    have : A.length * B.length ≤ 16 * 16 := Nat.mul_le_mul lA lB
    rw [pairs_len, e]; omega
/-! ### families asked -/
theorem fam_okV {A : List Str} (h : IsFam A) : okV 1 16 (.tup (A.map D.str)) := ⟨by rw [List.length_map]; exact h.len, fun x hx => by
  obtain ⟨s, hs, rfl⟩ := List.mem_map.mp hx
  have := sets_ok (n := 4) (by decide) s (h.mem s hs)
  exact ⟨by omega, this.2⟩⟩
theorem fam_B {n : Nat} (h : n ≤ 4) {A : List Str} (hm : ∀ s ∈ A, s ∈ setsL n) (hp : A.Pairwise Lt) : famB n (.tup (A.map D.str)) = true := by
  show ((A.map D.str).all (goodB n) && _) = true
  rw [strsOf_map, Bool.and_eq_true]
  refine ⟨?_, (adj_iff A).mpr hp⟩
  rw [List.all_map, List.all_eq_true]
  exact fun s hs => decide_eq_true ((canon_iff h s).mpr (hm s hs))
end Em


set_option Elab.async false
set_option linter.all false
set_option maxRecDepth 100000
set_option maxHeartbeats 4000000
namespace Em
open PySem PySem.Spec PyProof.Rows L2 DL OrdS
/-! ### the law's own joining -/
theorem ljoin_eq : ∀ s ∈ setsL 4, ∀ t ∈ setsL 4, Str.join "" (L4.filter fun c => strIn c (s ++ t)) = joinS s t := by decide +kernel
theorem F__law_join_r {s t : Str} {S : Sto} (hs : s ∈ setsL 4) (ht : t ∈ setsL 4) : Ret (F__law_join [.str s, .str t]) S (.str (joinS s t)) := by
  intro Q E hq
  have l1 := (sets_ok (n := 4) (by decide) s hs).1
  have l2 := (sets_ok (n := 4) (by decide) t ht).1
  rw [F__law_join_eq]
  delta m__law_join
  conv => whnf
  rw [letters4]
  refine ⟨sz (by decide), ?_⟩
  show lcT _ _ _ _ _ S _ _
  refine lc_n (letP fun c => strIn c (s ++ t)) id (fun d hd => ?_) (fun d hd _ => ?_) _ _ ?_
  · obtain ⟨c, hc, rfl⟩ := List.mem_map.mp hd
    intro Q E hq
    conv => whnf
    refine ⟨sz (by omega), ?_⟩
    conv => whnf
    exact hq
  · intro Q E hq
    conv => whnf
    exact hq
  · rw [filter_str, List.map_id]
    refine join_fin L4_one (by decide) ?_
    show Q (.str (Str.join "" (L4.filter fun c => strIn c (s ++ t)))) S
    rw [ljoin_eq s hs t ht]
    exact hq
theorem F__law_meet_r {s t : Str} {S : Sto} (hs : s.length ≤ 100) : Ret (F__law_meet [.str s, .str t]) S (.str (metS s t)) := by
  intro Q E hq
  rw [F__law_meet_eq]
  delta m__law_meet
  conv => whnf
  rw [chars_eq]
  refine ⟨sz (by rw [List.length_map, lettersOf_len]; omega), ?_⟩
  show lcT _ _ _ _ _ S _ _
  refine lc_n (letP fun c => strIn c t) id (fun d hd => ?_) (fun d hd _ => ?_) _ _ ?_
  · obtain ⟨c, hc, rfl⟩ := List.mem_map.mp hd
    intro Q E hq
    conv => whnf
    exact hq
  · intro Q E hq
    conv => whnf
    exact hq
  · rw [filter_str, List.map_id]
    exact join_fin (lettersOf_one s) (by rw [lettersOf_len]; omega) hq
theorem F__law_less_r {s t : Str} {S : Sto} (hs : s.length ≤ 100) : Ret (F__law_less [.str s, .str t]) S (.str (lessS s t)) := by
  intro Q E hq
  rw [F__law_less_eq]
  delta m__law_less
  conv => whnf
  rw [chars_eq]
  refine ⟨sz (by rw [List.length_map, lettersOf_len]; omega), ?_⟩
  show lcT _ _ _ _ _ S _ _
  refine lc_n (letP fun c => !strIn c t) id (fun d hd => ?_) (fun d hd _ => ?_) _ _ ?_
  · obtain ⟨c, hc, rfl⟩ := List.mem_map.mp hd
    intro Q E hq
    conv => whnf
    exact hq
  · intro Q E hq
    conv => whnf
    exact hq
  · rw [filter_str, List.map_id]
    exact join_fin (lettersOf_one s) (by rw [lettersOf_len]; omega) hq
end Em


set_option Elab.async false
set_option linter.all false
set_option maxRecDepth 100000
set_option maxHeartbeats 4000000
namespace Em
open PySem PySem.Spec PyProof.Rows L2 DL OrdS
/-! ### the law's own making -/
def wordF (w : Str) : Str → Str → Str := if w = "joins" then joinS else if w = "meets" then metS else lessS
theorem F__law_made_r {A B : List Str} {w : Str} {S : Sto} (hA : IsFam A) (hB : IsFam B) (hw : w = "joins" ∨ w = "meets" ∨ w = "less") : Ret (F__law_made [.tup (A.map D.str), .tup (B.map D.str), .str w]) S (.tup ((madeS (wordF w) A B).map D.str)) := by
  intro Q E hq
  have lA := hA.len
  have lB := hB.len
  rw [F__law_made_eq]
  delta m__law_made
  conv => whnf
  refine ⟨sz (n := 0) (by decide), ?_⟩
  refine for_i (fun r g S' => S = S' ∧ ∃ A1 A2 s4 s5, A = A1 ++ A2 ∧ r = A2.map D.str ∧ g = [.va (.tup (A.map D.str)), .va (.tup (B.map D.str)), .va (.str w), .ow ((A1.flatMap fun s => B.map (wordF w s)).map D.str), s4, s5])
    (fun d r g S' hI Q1 hn hc hb hr => ?_) (fun g S' hI => ?_) _ _ _ ⟨rfl, [], A, _, _, rfl, rfl, rfl⟩
  · obtain ⟨rfl, A1, A2, s4, s5, hAA, hr2, rfl⟩ := hI
    cases A2 with
    | nil => cases hr2
    | cons s A2 =>
      rw [List.map_cons] at hr2
      cases hr2
      have hs : s ∈ setsL 4 := hA.mem s (by rw [hAA]; simp)
      conv => whnf
      refine for_i (fun r g S' => S = S' ∧ ∃ B1 B2 s5, B = B1 ++ B2 ∧ r = B2.map D.str ∧ g = [.va (.tup (A.map D.str)), .va (.tup (B.map D.str)), .va (.str w), .ow (((A1.flatMap fun s => B.map (wordF w s)) ++ B1.map (wordF w s)).map D.str), .va (.str s), s5])
        (fun d r g S' hI Q2 hn2 hc2 hb2 hr2 => ?_) (fun g S' hI => ?_) _ _ _ ⟨rfl, [], B, _, rfl, rfl, by simp; rfl⟩
      · obtain ⟨rfl, B1, B2, s5, hBB, hr3, rfl⟩ := hI
        cases B2 with
        | nil => cases hr3
        | cons t B2 =>
          rw [List.map_cons] at hr3
          cases hr3
          have ht : t ∈ setsL 4 := hB.mem t (by rw [hBB]; simp)
          have hlen : (((A1.flatMap fun s => B.map (wordF w s)) ++ B1.map (wordF w s)).map D.str).length < sizeLine := by
            rw [List.length_map, List.length_append, pairs_len, List.length_map, sizeLine_eq]
            have h1 : A1.length ≤ 16 := by have := congrArg List.length hAA; rw [List.length_append] at this; omega
            have h2 : B1.length ≤ 16 := by have := congrArg List.length hBB; rw [List.length_append] at this; omega
            have := Nat.mul_le_mul h1 lB
            omega
          have fin : ∀ v, v = wordF w s t → Q2 (.nx [.va (.tup (A.map D.str)), .va (.tup (B.map D.str)), .va (.str w), .ow (((A1.flatMap fun s => B.map (wordF w s)) ++ B1.map (wordF w s)).map D.str ++ [.str v]), .va (.str s), .va (.str t)]) S := fun v hv => by
            subst hv
            refine hn2 _ _ ⟨rfl, B1 ++ [t], B2, .va (.str t), by rw [hBB]; simp, rfl, ?_⟩
            simp
          conv => whnf
          refine ⟨.inl rfl, ?_⟩
          conv => whnf
          rw [eqD_str]
          refine ite_i (fun h => ?_) (fun h => ?_)
          · have hw' := of_decide_eq_true h
            conv => whnf
            refine ⟨rfl, F__law_join_r hs ht _ _ ?_⟩
            conv => whnf
            exact ⟨hlen, fin _ (by unfold wordF; rw [if_pos hw'])⟩
          · have hw' := of_decide_eq_false h
            conv => whnf
            refine ⟨.inl rfl, ?_⟩
            conv => whnf
            rw [eqD_str]
            refine ite_i (fun h => ?_) (fun h => ?_)
            · have hw2 := of_decide_eq_true h
              conv => whnf
              refine ⟨rfl, F__law_meet_r (by have := (sets_ok (n := 4) (by decide) s hs).1; omega) _ _ ?_⟩
              conv => whnf
              exact ⟨hlen, fin _ (by unfold wordF; rw [if_neg hw', if_pos hw2])⟩
            · have hw2 := of_decide_eq_false h
              conv => whnf
              refine ⟨rfl, F__law_less_r (by have := (sets_ok (n := 4) (by decide) s hs).1; omega) _ _ ?_⟩
              conv => whnf
              exact ⟨hlen, fin _ (by unfold wordF; rw [if_neg hw', if_neg hw2])⟩
      · obtain ⟨rfl, B1, B2, s5, hBB, hr3, rfl⟩ := hI
        have hB2 : B2 = [] := by cases B2 with
          | nil => rfl
          | cons _ _ => cases hr3
        subst hB2
        rw [List.append_nil] at hBB
        subst hBB
        refine hn _ _ ⟨rfl, A1 ++ [s], A2, .va (.str s), s5, by rw [hAA]; simp, rfl, ?_⟩
        have e : (A1 ++ [s]).flatMap (fun s => B.map (wordF w s)) = (A1.flatMap fun s => B.map (wordF w s)) ++ B.map (wordF w s) := by
          rw [List.flatMap_append]; simp
        rw [e]
  · obtain ⟨rfl, A1, A2, s4, s5, hAA, hr2, rfl⟩ := hI
    have hA2 : A2 = [] := by cases A2 with
      | nil => rfl
      | cons _ _ => cases hr2
    subst hA2
    rw [List.append_nil] at hAA
    subst hAA
    conv => whnf
    refine opt_s (show strsIn (.lst ((A.flatMap fun s => B.map (wordF w s)).map D.str)) = some _ from strsOf_map _) ?_
    conv => whnf
    have hf : ∀ s ∈ setsL 4, ∀ t ∈ setsL 4, wordF w s t ∈ setsL 4 := by
      rcases hw with rfl | rfl | rfl
      · exact join_in
      · exact met_in
      · exact less_in
    have fm := made_fam hf hA hB
    refine ⟨⟨?_, Nat.lt_of_le_of_lt fm.len (by decide)⟩, hq⟩
    have e : scanBound = 4096 := rfl
    have : A.length * B.length ≤ 16 * 16 := Nat.mul_le_mul lA lB
    rw [pairs_len, e]; omega
end Em


set_option Elab.async false
set_option linter.all false
set_option maxRecDepth 100000
set_option maxHeartbeats 4000000
namespace Em
open PySem PySem.Spec PyProof.Rows L2 DL OrdS
/-! ### how many -/
def bsOf (s : Str) : List Bool := L4.map fun c => strIn c s
theorem bs_join : ∀ s ∈ setsL 4, ∀ t ∈ setsL 4, bsOf (joinS s t) = Four.or' (bsOf s) (bsOf t) := by decide +kernel
theorem bs_met : ∀ s ∈ setsL 4, ∀ t ∈ setsL 4, bsOf (metS s t) = Four.and' (bsOf s) (bsOf t) := by decide +kernel
theorem bs_less : ∀ s ∈ setsL 4, ∀ t ∈ setsL 4, bsOf (lessS s t) = Four.less' (bsOf s) (bsOf t) := by decide +kernel
theorem bs_inj : ∀ s ∈ setsL 4, ∀ t ∈ setsL 4, bsOf s = bsOf t → s = t := by decide +kernel
theorem bs_all (s : Str) : bsOf s ∈ Four.allL 4 := Four.mem_allL (by unfold bsOf; rw [List.length_map]; rfl)
theorem all_nd : (Four.allL 4).Nodup := by decide
theorem bs_nd : ∀ {A : List Str}, (∀ s ∈ A, s ∈ setsL 4) → A.Nodup → (A.map bsOf).Nodup
  | [], _, _ => List.nodup_nil
  | s :: A, hm, nd => by
    rw [List.nodup_cons] at nd
    rw [List.map_cons, List.nodup_cons]
    refine ⟨fun h => ?_, bs_nd (fun t ht => hm t (List.mem_cons_of_mem _ ht)) nd.2⟩
    obtain ⟨t, ht, e⟩ := List.mem_map.mp h
    exact nd.1 (by rw [bs_inj s (hm s List.mem_cons_self) t (hm t (List.mem_cons_of_mem _ ht)) e.symm]; exact ht)
theorem IsFam.nd {A : List Str} (h : IsFam A) : (A.map bsOf).Nodup := bs_nd h.mem (pw_nodup h.pw)
theorem IsFam.al {A : List Str} : ∀ b ∈ A.map bsOf, b ∈ Four.allL 4 := fun b hb => by
  obtain ⟨s, _, rfl⟩ := List.mem_map.mp hb
  exact bs_all s
theorem made_mem {f : Str → Str → Str} {A B : List Str} {s t : Str} (hs : s ∈ A) (ht : t ∈ B) : f s t ∈ madeS f A B := (sset_mem _ _).mpr (List.mem_flatMap.mpr ⟨s, hs, List.mem_map.mpr ⟨t, ht, rfl⟩⟩)
theorem many_jm {A B : List Str} (hA : IsFam A) (hB : IsFam B) : A.length * B.length ≤ (madeS joinS A B).length * (madeS metS A B).length := by
  have hJ := made_fam join_in hA hB
  have hM := made_fam met_in hA hB
  have := Four.joins_meets all_nd hA.nd hB.nd hJ.nd hM.nd IsFam.al IsFam.al IsFam.al IsFam.al fun b hb c hc => by
    obtain ⟨s, hs, rfl⟩ := List.mem_map.mp hb
    obtain ⟨t, ht, rfl⟩ := List.mem_map.mp hc
    rw [← bs_join s (hA.mem s hs) t (hB.mem t ht), ← bs_met s (hA.mem s hs) t (hB.mem t ht)]
    exact ⟨List.mem_map.mpr ⟨_, made_mem hs ht, rfl⟩, List.mem_map.mpr ⟨_, made_mem hs ht, rfl⟩⟩
  simpa using this
theorem many_ll {A B : List Str} (hA : IsFam A) (hB : IsFam B) : A.length * B.length ≤ (madeS lessS A B).length * (madeS lessS B A).length := by
  have hJ := made_fam less_in hA hB
  have hM := made_fam less_in hB hA
  have := Four.lesses all_nd hA.nd hB.nd hJ.nd hM.nd IsFam.al IsFam.al IsFam.al IsFam.al fun b hb c hc => by
    obtain ⟨s, hs, rfl⟩ := List.mem_map.mp hb
    obtain ⟨t, ht, rfl⟩ := List.mem_map.mp hc
    rw [← bs_less s (hA.mem s hs) t (hB.mem t ht), ← bs_less t (hB.mem t ht) s (hA.mem s hs)]
    exact ⟨List.mem_map.mpr ⟨_, made_mem hs ht, rfl⟩, List.mem_map.mpr ⟨_, made_mem ht hs, rfl⟩⟩
  simpa using this
theorem many_self {A : List Str} (hA : IsFam A) : A.length ≤ (madeS lessS A A).length := by
  have h := many_ll hA hA
  exact Nat.mul_self_le_mul_self_iff.mp h
end Em


set_option Elab.async false
set_option linter.all false
set_option maxRecDepth 100000
set_option maxHeartbeats 4000000
namespace Em
open PySem PySem.Spec PyProof.Rows L2 DL OrdS
theorem fam_ok {A : List Str} (h : IsFam A) : okD (.tup (A.map D.str)) = true := (fam_okV h).ok (by decide)
end Em


set_option Elab.async false
set_option linter.all false
set_option maxRecDepth 100000
set_option maxHeartbeats 4000000
namespace Em
open PySem PySem.Spec PyProof.Rows L2 DL OrdS
/-! ### closed downward, upward -/
def inB (s t : Str) : Bool := decide (lessS s t = "")
theorem F_is_in_r {s t : Str} {S : Sto} (hs : s.length ≤ 100) : Ret (F_is_in [.str s, .str t]) S (.bl (inB s t)) := by
  intro Q E hq
  rw [F_is_in_eq]
  delta m_is_in
  conv => whnf
  refine ⟨rfl, F_less_r hs _ _ ?_⟩
  conv => whnf
  refine ⟨.inl rfl, ?_⟩
  conv => whnf
  rw [eqD_str]
  exact hq
def downB (A : List Str) : Bool := ((setsL 4).filter fun s => A.any fun t => inB s t).all fun s => decide (s ∈ A)
def upB (n : Nat) (A : List Str) : Bool := ((setsL n).filter fun s => A.any fun t => inB t s).all fun s => decide (s ∈ A)
def strP (p : Str → Bool) : D → Bool
  | .str s => p s
  | _ => false
theorem all_fin {l : List Str} {p : Str → Bool} {S : Sto} {Q : D → Sto → Prop} {E : Xn → Sto → Prop} (h : Q (.bl (l.all p)) S) : dAll [.lst ((l.map D.str).map fun d => .bl (strP p d))] S Q E := by
  unfold dAll
  refine opt_s (a := l.map p) (by
    have := blsOf_map (l.map p)
    rw [List.map_map] at this
    rw [List.map_map]
    exact this) ?_
  show Q (.bl ((l.map p).all id)) S
  rw [List.all_map]
  exact h
theorem any_fin {l : List Str} {p : Str → Bool} {S : Sto} {Q : D → Sto → Prop} {E : Xn → Sto → Prop} (h : Q (.bl (l.any p)) S) : dAny [.lst ((l.map D.str).map fun d => .bl (strP p d))] S Q E := by
  unfold dAny
  refine opt_s (a := l.map p) (by
    have := blsOf_map (l.map p)
    rw [List.map_map] at this
    rw [List.map_map]
    exact this) ?_
  show Q (.bl ((l.map p).any id)) S
  rw [List.any_map]
  exact h
theorem F_is_closed_down_r {A : List Str} {S : Sto} (hA : IsFam A) : Ret (F_is_closed_down [.tup (A.map D.str)]) S (.bl (downB A)) := by
  intro Q E hq
  have lA := hA.len
  rw [F_is_closed_down_eq]
  delta m_is_closed_down
  conv => whnf
  refine ⟨rfl, F_every_set_r (n := 4) (by decide) _ _ ?_⟩
  conv => whnf
  refine ⟨sz (by rw [List.length_map]; exact Nat.le_trans (sets_len (by decide)) (by decide)), ?_⟩
  show lcT _ _ _ _ _ S _ _
  refine lc_n (strP fun s => A.any fun t => inB s t) (fun d => .bl (strP (fun s => decide (s ∈ A)) d)) (fun d hd => ?_) (fun d hd _ => ?_) _ _ ?_
  · obtain ⟨s, hs, rfl⟩ := List.mem_map.mp hd
    have hs4 := (sets_ok (n := 4) (by decide) s hs).1
    intro Q E hq
    conv => whnf
    refine ⟨sz (by rw [List.length_map]; omega), ?_⟩
    show lcT _ _ _ _ _ S _ _
    refine lc_m (fun d => .bl (strP (fun t => inB s t) d)) (fun d hd => ?_) _ _ ?_
    · obtain ⟨t, ht, rfl⟩ := List.mem_map.mp hd
      intro Q E hq
      conv => whnf
      exact ⟨rfl, F_is_in_r (by omega) _ _ hq⟩
    · show dAny [.lst ((A.map D.str).map fun d => .bl (strP (fun t => inB s t) d))] S _ _
      refine any_fin ?_
      conv => whnf
      exact hq
  · obtain ⟨s, hs, rfl⟩ := List.mem_map.mp hd
    intro Q E hq
    conv => whnf
    refine ⟨.inl ⟨rfl, flat_strs _⟩, ?_⟩
    conv => whnf
    rw [eqD_any]
    exact hq
  · rw [filter_str]
    show dAll [.lst ((((setsL 4).filter fun s => A.any fun t => inB s t).map D.str).map fun d => .bl (strP (fun s => decide (s ∈ A)) d))] S _ _
    refine all_fin ?_
    conv => whnf
    exact hq
end Em


set_option Elab.async false
set_option linter.all false
set_option maxRecDepth 100000
set_option maxHeartbeats 4000000
namespace Em
open PySem PySem.Spec PyProof.Rows L2 DL OrdS
end Em


set_option Elab.async false
set_option linter.all false
set_option maxRecDepth 100000
set_option maxHeartbeats 4000000
namespace Em
open PySem PySem.Spec PyProof.Rows L2 DL OrdS
/-! ### letter by letter -/
theorem step_down : ∀ t ∈ setsL 4, ∀ s ∈ setsL 4, inB s t = true → s = t ∨ ∃ c ∈ lettersOf t, inB s (lessS t c) = true ∧ (lessS t c).length < t.length ∧ lessS t c ∈ setsL 4 := by decide +kernel
theorem down_one : ∀ t ∈ setsL 4, ∀ c ∈ lettersOf t, inB (lessS t c) t = true ∧ lessS t c ∈ setsL 4 := by decide +kernel
def downL (A : List Str) : Bool := A.all fun t => (lettersOf t).all fun c => decide (lessS t c ∈ A)
theorem down_eq {A : List Str} (hA : IsFam A) : downL A = downB A := by
  rw [Bool.eq_iff_iff]
  unfold downL downB
  simp only [List.all_eq_true, List.mem_filter, List.any_eq_true, decide_eq_true_eq]
  constructor
  · rintro h s ⟨hs, t, ht, hst⟩
    have key : ∀ n : Nat, ∀ t ∈ A, t.length ≤ n → inB s t = true → s ∈ A := by
      intro n
      induction n with
      | zero =>
        intro t ht hl hi
        rcases step_down t (hA.mem t ht) s hs hi with rfl | ⟨c, _, _, h3, _⟩
        · exact ht
        · omega
      | succ n ih =>
        intro t ht hl hi
        rcases step_down t (hA.mem t ht) s hs hi with rfl | ⟨c, hc, h2, h3, _⟩
        · exact ht
        · exact ih _ (h t ht c hc) (by omega) h2
    exact key _ t ht (Nat.le_refl _) hst
  · intro h t ht c hc
    obtain ⟨h1, h2⟩ := down_one t (hA.mem t ht) c hc
    exact h _ ⟨h2, t, ht, h1⟩
theorem step_up : ∀ n ≤ 4, ∀ t ∈ setsL n, ∀ s ∈ setsL n, inB t s = true → s = t ∨ ∃ c ∈ L4.take n, inB (joinS t c) s = true ∧ t.length < (joinS t c).length := by decide +kernel
theorem up_one : ∀ n ≤ 4, ∀ t ∈ setsL n, ∀ c ∈ L4.take n, inB t (joinS t c) = true ∧ joinS t c ∈ setsL n := by decide +kernel
def upL (n : Nat) (A : List Str) : Bool := A.all fun t => (L4.take n).all fun c => decide (joinS t c ∈ A)
theorem up_eq {n : Nat} (hn : n ≤ 4) {A : List Str} (hm : ∀ s ∈ A, s ∈ setsL n) : upL n A = upB n A := by
  rw [Bool.eq_iff_iff]
  unfold upL upB
  simp only [List.all_eq_true, List.mem_filter, List.any_eq_true, decide_eq_true_eq]
  constructor
  · rintro h s ⟨hs, t, ht, hst⟩
    have l4 : ∀ t ∈ A, t.length ≤ 4 := fun t ht => (sets_ok hn t (hm t ht)).1
    have key : ∀ k : Nat, ∀ t ∈ A, 4 ≤ t.length + k → inB t s = true → s ∈ A := by
      intro k
      induction k with
      | zero =>
        intro t ht hl hi
        rcases step_up n hn t (hm t ht) s hs hi with rfl | ⟨c, hc, _, h3⟩
        · exact ht
        · have := l4 _ (h t ht c hc); omega
      | succ k ih =>
        intro t ht hl hi
        rcases step_up n hn t (hm t ht) s hs hi with rfl | ⟨c, hc, h2, h3⟩
        · exact ht
        · exact ih _ (h t ht c hc) (by omega) h2
    exact key 4 t ht (by omega) hst
  · intro h t ht c hc
    obtain ⟨h1, h2⟩ := up_one n hn t (hm t ht) c hc
    exact h _ ⟨h2, t, ht, h1⟩
end Em


set_option Elab.async false
set_option linter.all false
set_option maxRecDepth 100000
set_option maxHeartbeats 4000000
namespace Em
open PySem PySem.Spec PyProof.Rows L2 DL OrdS
-- only: k02 k03 k04 k13 k14 k15
theorem F__law_is_down_r {A : List Str} {S : Sto} (hA : IsFam A) : Ret (F__law_is_down [.tup (A.map D.str)]) S (.bl (downL A)) := by
  intro Q E hq
  rw [F__law_is_down_eq]
  delta m__law_is_down
  conv => whnf
  refine for_i (fun r g S' => S = S' ∧ ∃ A2 s1 s2, r = A2.map D.str ∧ (∀ t ∈ A2, t ∈ A) ∧ (A2.all fun t => (lettersOf t).all fun c => decide (lessS t c ∈ A)) = downL A ∧ g = [.va (.tup (A.map D.str)), s1, s2])
    (fun d r g S' hI Q1 hn hc hb hr => ?_) (fun g S' hI => ?_) _ _ _ ⟨rfl, A, _, _, rfl, fun _ h => h, rfl, rfl⟩
  · obtain ⟨rfl, A2, s1, s2, hr1, hm, ha, rfl⟩ := hI
    cases A2 with
    | nil => cases hr1
    | cons t A2 =>
      rw [List.map_cons] at hr1
      cases hr1
      have ht := hm t List.mem_cons_self
      have t4 := hA.s4 ht
      rw [List.all_cons] at ha
      conv => whnf
      rw [chars_eq]
      refine for_i (fun r g S' => S = S' ∧ ∃ L2 s2, r = L2.map D.str ∧ (L2.all fun c => decide (lessS t c ∈ A)) = ((lettersOf t).all fun c => decide (lessS t c ∈ A)) ∧ g = [.va (.tup (A.map D.str)), .va (.str t), s2])
        (fun d r g S' hI Q2 hn2 hc2 hb2 hr2 => ?_) (fun g S' hI => ?_) _ _ _ ⟨rfl, lettersOf t, _, rfl, rfl, rfl⟩
      · obtain ⟨rfl, L2, s2, hr3, hl, rfl⟩ := hI
        cases L2 with
        | nil => cases hr3
        | cons c L2 =>
          rw [List.map_cons] at hr3
          cases hr3
          rw [List.all_cons] at hl
          conv => whnf
          refine ⟨rfl, F__law_less_r (by omega) _ _ ?_⟩
          conv => whnf
          refine ⟨.inl ⟨rfl, flat_strs _⟩, ?_⟩
          conv => whnf
          rw [eqD_any]
          refine ite_i (fun h => ?_) (fun h => ?_)
          · have h : (!decide (lessS t c ∈ A)) = true := h
            have h' : decide (lessS t c ∈ A) = false := by simpa using h
            rw [h', Bool.false_and] at hl
            rw [← hl, Bool.false_and] at ha
            rw [← ha] at hq
            exact hr2 _ _ (hr _ _ hq)
          · have h : (!decide (lessS t c ∈ A)) = false := h
            have h' : decide (lessS t c ∈ A) = true := by simpa using h
            rw [h', Bool.true_and] at hl
            conv => whnf
            exact hn2 _ _ ⟨rfl, L2, _, rfl, hl, rfl⟩
      · obtain ⟨rfl, L2, s2, hr3, hl, rfl⟩ := hI
        have hL : L2 = [] := by cases L2 with
          | nil => rfl
          | cons _ _ => cases hr3
        subst hL
        rw [← hl, List.all_nil, Bool.true_and] at ha
        exact hn _ _ ⟨rfl, A2, _, _, rfl, fun x hx => hm x (List.mem_cons_of_mem _ hx), ha, rfl⟩
  · obtain ⟨rfl, A2, s1, s2, hr1, hm, ha, rfl⟩ := hI
    have hA2 : A2 = [] := by cases A2 with
      | nil => rfl
      | cons _ _ => cases hr1
    subst hA2
    rw [← ha] at hq
    exact hq
end Em


set_option Elab.async false
set_option linter.all false
set_option maxRecDepth 100000
set_option maxHeartbeats 4000000
namespace Em
open PySem PySem.Spec PyProof.Rows L2 DL OrdS
theorem L4_in : ∀ c ∈ L4, c ∈ setsL 4 := by decide +kernel
end Em


set_option Elab.async false
set_option linter.all false
set_option maxRecDepth 100000
set_option maxHeartbeats 4000000
namespace Em
open PySem PySem.Spec PyProof.Rows L2 DL OrdS
def withB (s t : Str) : Bool := ((lettersOf s).filter fun c => !strIn c t).isEmpty
theorem F__law_within_r {n : Nat} {s t : Str} {S : Sto} (hn : n ≤ 4) (hs : s ∈ setsL n) : Ret (F__law_within [.str s, .str t]) S (.bl (withB s t)) := by
  intro Q E hq
  have h4 := (sets_ok hn s hs).1
  have ok1 : ∀ n ≤ 4, ∀ s ∈ setsL n, ∀ c ∈ lettersOf s, PyData.strOk c = true := by decide +kernel
  rw [F__law_within_eq]
  delta m__law_within
  conv => whnf
  rw [chars_eq]
  refine ⟨sz (by rw [List.length_map, lettersOf_len]; omega), ?_⟩
  show lcT _ _ _ _ _ S _ _
  refine lc_n (letP fun c => !strIn c t) id (fun d hd => ?_) (fun d hd _ => ?_) _ _ ?_
  · obtain ⟨c, hc, rfl⟩ := List.mem_map.mp hd
    intro Q E hq
    conv => whnf
    exact hq
  · intro Q E hq
    conv => whnf
    exact hq
  · rw [filter_str, List.map_id]
    have ok : okD (.lst (((lettersOf s).filter fun c => letP (fun c => !strIn c t) (.str c)).map D.str)) = true := okV.ok (k := 1) (b := 16) (by decide) (okV_strs (Nat.le_trans (List.length_filter_le _ _) (by rw [lettersOf_len]; omega)) fun c hc => by
      have hc := (List.mem_filter.mp hc).1
      exact ⟨by rw [lettersOf_one s c hc]; decide, ok1 n hn s hs c hc⟩)
    conv => whnf
    refine ⟨sz (n := 0) (by decide), ?_⟩
    conv => whnf
    refine ⟨.inr ⟨ok, by decide⟩, ?_⟩
    conv => whnf
    rw [eqD_nil ok, List.isEmpty_map]
    exact hq
theorem sub_fam {n : Nat} (hn : n ≤ 4) {l : List Str} (h : l.Sublist (setsL n)) : IsFam l ∧ ∀ s ∈ l, s ∈ setsL n := by
  have up : ∀ n ≤ 4, ∀ s ∈ setsL n, s ∈ setsL 4 := by decide +kernel
  exact ⟨⟨fun s hs => up n hn s (h.subset hs), (sets_pw hn).sublist h⟩, fun s hs => h.subset hs⟩
end Em


set_option Elab.async false
set_option linter.all false
set_option maxRecDepth 100000
set_option maxHeartbeats 4000000
namespace Em
open PySem PySem.Spec PyProof.Rows L2 DL OrdS
end Em


set_option Elab.async false
set_option linter.all false
set_option maxRecDepth 100000
set_option maxHeartbeats 4000000
namespace Em
open PySem PySem.Spec PyProof.Rows L2 DL OrdS
def kn1 : List Str := ["", "a", "b"]
def kn2 : List Str := ["a", "ab", "b"]
def kn3 : List Str := ["ab", "ac", "bc"]
theorem fam_by {A : List Str} (h : (A.all fun s => decide (s ∈ setsL 4)) = true) (h2 : adjB A = true) : IsFam A := ⟨fun s hs => of_decide_eq_true (List.all_eq_true.mp h s hs), (adj_iff A).mp h2⟩
theorem kn1_f : IsFam kn1 := fam_by (by decide +kernel) (by decide +kernel)
theorem kn2_f : IsFam kn2 := fam_by (by decide +kernel) (by decide +kernel)
theorem kn3_f : IsFam kn3 := fam_by (by decide +kernel) (by decide +kernel)
end Em


set_option Elab.async false
set_option linter.all false
set_option maxRecDepth 100000
set_option maxHeartbeats 4000000
namespace Em
open PySem PySem.Spec PyProof.Rows L2 DL OrdS
end Em


set_option Elab.async false
set_option linter.all false
set_option maxRecDepth 100000
set_option maxHeartbeats 4000000
namespace Em
open PySem PySem.Spec PyProof.Rows L2 DL OrdS
theorem fam0 : IsFam [] := ⟨fun _ h => absurd h List.not_mem_nil, List.Pairwise.nil⟩
end Em


set_option Elab.async false
set_option linter.all false
set_option maxRecDepth 100000
set_option maxHeartbeats 4000000
namespace Em
open PySem PySem.Spec PyProof.Rows L2 DL OrdS
/-! ### loops over told items -/
def qLaw : Str := "law.<locals>.<lambda>"
def qRef : Str := "_law_refused.<locals>.<lambda>"
theorem for_l {α : Type} (c : α → D) {f : D → Sg → T Sg} {body : MS} {Q : Out → Sto → Prop} {E : Xn → Sto → Prop} (I : List α → Sg → Sto → Prop)
    (hs : ∀ x r g S, I (x :: r) g S → ∀ Q' : Out → Sto → Prop, (∀ g2 S2, I r g2 S2 → Q' (.nx g2) S2) → (∀ d S2, Q (.rt d) S2 → Q' (.rt d) S2) → f (c x) g S (fun g1 S1 => body g1 S1 Q' E) E)
    (he : ∀ g S, I [] g S → Q (.nx g) S) : ∀ (l : List α) (g : Sg) (S : Sto), I l g S → forT f body (l.map c) g S Q E
  | [], g, S, h => he g S h
  | x :: r, g, S, h => hs x r g S h _ (fun g2 S2 h2 => for_l c I hs he r g2 S2 h2) (fun d S2 h2 => h2)
/-- a loop that only lets pass or ends -/
theorem for_p {α : Type} (c : α → D) {f : D → Sg → T Sg} {body : MS} {Q : Out → Sto → Prop} {E : Xn → Sto → Prop} (G : Sg → Prop) {S : Sto} {l : List α}
    (hs : ∀ x ∈ l, ∀ g, G g → ∀ Q' : Out → Sto → Prop, (∀ g2, G g2 → Q' (.nx g2) S) → (∀ d S2, Q (.rt d) S2 → Q' (.rt d) S2) → f (c x) g S (fun g1 S1 => body g1 S1 Q' E) E)
    (he : ∀ g, G g → Q (.nx g) S) {g : Sg} (h : G g) : forT f body (l.map c) g S Q E := by
  refine for_l c (fun r g S' => S = S' ∧ (∀ x ∈ r, x ∈ l) ∧ G g) (fun x r g S' hI Q' hn hr => ?_) (fun g S' hI => ?_) l g S ⟨rfl, fun _ h => h, h⟩
  · obtain ⟨rfl, hm, hg⟩ := hI
    exact hs x (hm x List.mem_cons_self) g hg Q' (fun g2 h2 => hn g2 S ⟨rfl, fun y hy => hm y (List.mem_cons_of_mem _ hy), h2⟩) hr
  · obtain ⟨rfl, _, hg⟩ := hI
    exact he g hg
theorem for_d {f : D → Sg → T Sg} {body : MS} {Q : Out → Sto → Prop} {E : Xn → Sto → Prop} (G : Sg → Prop) {S : Sto} {l : List D}
    (hs : ∀ x ∈ l, ∀ g, G g → ∀ Q' : Out → Sto → Prop, (∀ g2, G g2 → Q' (.nx g2) S) → (∀ d S2, Q (.rt d) S2 → Q' (.rt d) S2) → f x g S (fun g1 S1 => body g1 S1 Q' E) E)
    (he : ∀ g, G g → Q (.nx g) S) {g : Sg} (h : G g) : forT f body l g S Q E := by
  have := for_p id (l := l) (S := S) (Q := Q) (E := E) (f := f) (body := body) G hs he h
  rwa [List.map_id] at this
/-! ### squeezed -/
def sqzF (A : List Str) (c : Str) (s : Str) : Str := if lessS s c ∈ A then s else lessS s c
def sqz (A : List Str) (c : Str) : List Str := ssort (A.map (sqzF A c))
theorem lessL_in : ∀ s ∈ setsL 4, ∀ c ∈ L4, lessS s c ∈ setsL 4 := by decide +kernel
theorem lessL_no : ∀ s ∈ setsL 4, ∀ c ∈ L4, strIn c s = false → lessS s c = s := by decide +kernel
theorem lessL_out : ∀ s ∈ setsL 4, ∀ c ∈ L4, strIn c (lessS s c) = false := by decide +kernel
theorem lessL_inj : ∀ s ∈ setsL 4, ∀ t ∈ setsL 4, ∀ c ∈ L4, strIn c s = true → strIn c t = true → lessS s c = lessS t c → s = t := by decide +kernel
theorem lessL_len : ∀ s ∈ setsL 4, ∀ c ∈ L4, lessS s c = s ∨ (lessS s c).length < s.length := by decide +kernel
theorem ssort_sset {l : List Str} (nd : l.Nodup) : ssort l = sset l := pw_eq (ssort_pw l) (pw_le (sset_pw l)) ((ssort_perm l).trans (nodup_perm nd (sset_nodup l) fun x => (sset_mem x l).symm))
theorem sqz_nd {A : List Str} (hA : IsFam A) {c : Str} (hc : c ∈ L4) : (A.map (sqzF A c)).Nodup := by
  refine List.pairwise_map.mpr ((pw_nodup hA.pw).imp_of_mem fun {s t} hs ht ne e => ne ?_)
  have ms := hA.mem s hs
  have mt := hA.mem t ht
  unfold sqzF at e
  by_cases h1 : lessS s c ∈ A
  · rw [if_pos h1] at e
    by_cases h2 : lessS t c ∈ A
    · rw [if_pos h2] at e; exact e
    · rw [if_neg h2] at e; rw [e] at hs; exact absurd hs h2
  · rw [if_neg h1] at e
    by_cases h2 : lessS t c ∈ A
    · rw [if_pos h2] at e; rw [← e] at ht; exact absurd ht h1
    · rw [if_neg h2] at e
      have i1 : strIn c s = true := by
        cases q : strIn c s with
        | true => rfl
        | false => rw [lessL_no s ms c hc q] at h1; exact absurd hs h1
      have i2 : strIn c t = true := by
        cases q : strIn c t with
        | true => rfl
        | false => rw [lessL_no t mt c hc q] at h2; exact absurd ht h2
      exact lessL_inj s ms t mt c hc i1 i2 e
theorem sqz_mem {A : List Str} {c x : Str} : x ∈ sqz A c ↔ ∃ s ∈ A, sqzF A c s = x := by
  unfold sqz
  rw [(ssort_perm _).mem_iff, List.mem_map]
theorem sqzF_in {A : List Str} (hA : IsFam A) {c : Str} (hc : c ∈ L4) {s : Str} (hs : s ∈ A) : sqzF A c s ∈ setsL 4 := by
  unfold sqzF
  split
  · exact hA.mem s hs
  · exact lessL_in s (hA.mem s hs) c hc
theorem sqz_fam {A : List Str} (hA : IsFam A) {c : Str} (hc : c ∈ L4) : IsFam (sqz A c) := by
  refine ⟨fun x hx => ?_, ?_⟩
  · obtain ⟨s, hs, rfl⟩ := sqz_mem.mp hx
    exact sqzF_in hA hc hs
  · unfold sqz
    rw [ssort_sset (sqz_nd hA hc)]
    exact sset_pw _
theorem sqz_len (A : List Str) (c : Str) : (sqz A c).length = A.length := by
  unfold sqz
  rw [(ssort_perm _).length_eq, List.length_map]
theorem F_squeezed_by_r {A : List Str} {c : Str} {S : Sto} (hA : IsFam A) (hc : c ∈ L4) : Ret (F_squeezed_by [.tup (A.map D.str), .str c]) S (.tup ((sqz A c).map D.str)) := by
  intro Q E hq
  have lA := hA.len
  rw [F_squeezed_by_eq]
  delta m_squeezed_by
  conv => whnf
  refine ⟨sz (n := 0) (by decide), ?_⟩
  refine for_l D.str (fun r g S' => S = S' ∧ ∃ A1 s3 s4, A = A1 ++ r ∧ g = [.va (.tup (A.map D.str)), .va (.str c), .ow ((A1.map (sqzF A c)).map D.str), s3, s4])
    (fun s r g S' hI Q1 hn hr => ?_) (fun g S' hI => ?_) _ _ _ ⟨rfl, [], _, _, rfl, rfl⟩
  · obtain ⟨rfl, A1, s3, s4, hAA, rfl⟩ := hI
    have hs : s ∈ A := by rw [hAA]; simp
    have l1 : A1.length ≤ 16 := by have := congrArg List.length hAA; rw [List.length_append] at this; omega
    have fin : Q1 (.nx [.va (.tup (A.map D.str)), .va (.str c), .ow ((A1.map (sqzF A c)).map D.str ++ [.str (sqzF A c s)]), .va (.str s), .va (.str (lessS s c))]) S :=
      hn _ _ ⟨rfl, A1 ++ [s], .va (.str s), .va (.str (lessS s c)), by rw [hAA]; simp, by simp⟩
    conv => whnf
    refine ⟨rfl, F_less_r (by have := hA.s4 hs; omega) _ _ ?_⟩
    conv => whnf
    refine ⟨.inl ⟨rfl, flat_strs _⟩, ?_⟩
    conv => whnf
    rw [eqD_any]
    refine ite_i (fun h => ?_) (fun h => ?_)
    · have h := of_decide_eq_true h
      conv => whnf
      refine ⟨by rw [List.length_map, List.length_map, sizeLine_eq]; omega, ?_⟩
      have e : sqzF A c s = s := if_pos h
      rw [e] at fin
      exact fin
    · have h := of_decide_eq_false h
      conv => whnf
      refine ⟨by rw [List.length_map, List.length_map, sizeLine_eq]; omega, ?_⟩
      have e : sqzF A c s = lessS s c := if_neg h
      rw [e] at fin
      exact fin
  · obtain ⟨rfl, A1, s3, s4, hAA, rfl⟩ := hI
    rw [List.append_nil] at hAA
    subst hAA
    conv => whnf
    refine opt_s (strsOf_map _) ?_
    conv => whnf
    exact ⟨by rw [List.length_map]; omega, hq⟩
end Em


set_option Elab.async false
set_option linter.all false
set_option maxRecDepth 100000
set_option maxHeartbeats 4000000
namespace Em
open PySem PySem.Spec PyProof.Rows L2 DL OrdS
/-! ### pressed -/
def chg (A : List Str) : List Str := L4.filter fun c => decide (sqz A c ≠ A)
def press : Nat → List Str → List Str
  | 0, A => A
  | n + 1, A => match chg A with
    | [] => A
    | c :: _ => press n (sqz A c)
def wgt (A : List Str) : Nat := (A.map (·.length)).sum
theorem wgt_map (f : Str → Str) : ∀ l : List Str, (∀ s ∈ l, f s = s ∨ (f s).length < s.length) → l.map f = l ∨ wgt (l.map f) < wgt l
  | [], _ => .inl rfl
  | s :: l, h => by
    have ih := wgt_map f l fun t ht => h t (List.mem_cons_of_mem _ ht)
    have e1 : wgt ((s :: l).map f) = (f s).length + wgt (l.map f) := rfl
    have e2 : wgt (s :: l) = s.length + wgt l := rfl
    rcases h s List.mem_cons_self with h1 | h1
    · rcases ih with ih | ih
      · exact .inl (by rw [List.map_cons, h1, ih])
      · exact .inr (by rw [e1, e2, h1]; omega)
    · refine .inr ?_
      rw [e1, e2]
      rcases ih with ih | ih
      · rw [ih]; omega
      · omega
theorem sqzF_le {A : List Str} (hA : IsFam A) {c : Str} (hc : c ∈ L4) : ∀ s ∈ A, sqzF A c s = s ∨ (sqzF A c s).length < s.length := fun s hs => by
  unfold sqzF
  split
  · exact .inl rfl
  · exact lessL_len s (hA.mem s hs) c hc
theorem sqz_wgt {A : List Str} (hA : IsFam A) {c : Str} (hc : c ∈ L4) (h : sqz A c ≠ A) : wgt (sqz A c) < wgt A := by
  rcases wgt_map (sqzF A c) A (sqzF_le hA hc) with e | e
  · refine absurd ?_ h
    unfold sqz
    rw [e, ssort_sset (pw_nodup hA.pw), sset_self hA.pw]
  · have e2 : wgt (sqz A c) = wgt (A.map (sqzF A c)) := by
      unfold wgt sqz
      exact ((ssort_perm _).map _).sum_nat
    rw [e2]; exact e
theorem wgt_le {A : List Str} (h : ∀ s ∈ A, s.length ≤ 4) : wgt A ≤ 4 * A.length := by
  induction A with
  | nil => exact Nat.le_refl _
  | cons s A ih =>
    have e2 : wgt (s :: A) = s.length + wgt A := rfl
    have := ih fun t ht => h t (List.mem_cons_of_mem _ ht)
    have := h s List.mem_cons_self
    rw [e2, List.length_cons]; omega
theorem chg_L4 {A : List Str} {c : Str} (h : c ∈ chg A) : c ∈ L4 ∧ sqz A c ≠ A := ⟨(List.mem_filter.mp h).1, of_decide_eq_true (List.mem_filter.mp h).2⟩
theorem press_fam : ∀ (n : Nat) {A : List Str}, IsFam A → IsFam (press n A) ∧ (press n A).length = A.length
  | 0, A, h => ⟨h, rfl⟩
  | n + 1, A, h => by
    unfold press
    split
    · exact ⟨h, rfl⟩
    · rename_i c r e
      have hc := chg_L4 (A := A) (c := c) (by rw [e]; exact List.mem_cons_self)
      have ih := press_fam n (sqz_fam h hc.1)
      exact ⟨ih.1, ih.2.trans (sqz_len A c)⟩
theorem press_end : ∀ (n : Nat) {A : List Str}, IsFam A → wgt A ≤ n → chg (press n A) = []
  | 0, A, h, hw => by
    cases e : chg A with
    | nil => exact e
    | cons c r =>
      have hc := chg_L4 (A := A) (c := c) (by rw [e]; exact List.mem_cons_self)
      have := sqz_wgt h hc.1 hc.2
      omega
  | n + 1, A, h, hw => by
    unfold press
    split
    · rename_i e; exact e
    · rename_i c r e
      have hc := chg_L4 (A := A) (c := c) (by rw [e]; exact List.mem_cons_self)
      have := sqz_wgt h hc.1 hc.2
      exact press_end n (sqz_fam h hc.1) (by omega)
/-- more turns change nothing -/
theorem press_more : ∀ (n m : Nat) {A : List Str}, IsFam A → wgt A ≤ n → n ≤ m → press m A = press n A
  | 0, m, A, h, hw, _ => by
    have e := press_end 0 h hw
    have e : chg A = [] := e
    cases m with
    | zero => rfl
    | succ m => unfold press; rw [e]
  | n + 1, 0, A, h, hw, hm => by omega
  | n + 1, m + 1, A, h, hw, hm => by
    unfold press
    split
    · rfl
    · rename_i c r e
      have hc := chg_L4 (A := A) (c := c) (by rw [e]; exact List.mem_cons_self)
      have := sqz_wgt h hc.1 hc.2
      exact press_more n m (sqz_fam h hc.1) (by omega) (by omega)
def pressd (A : List Str) : List Str := press 64 A
theorem fam_wgt {A : List Str} (h : IsFam A) : wgt A ≤ 64 := Nat.le_trans (wgt_le fun s hs => h.s4 hs) (by have := h.len; omega)
theorem okD_fams {X : List (List Str)} (hl : X.length ≤ 16) (h : ∀ A ∈ X, IsFam A) : okD (.lst (X.map fun A => .tup (A.map D.str))) = true := okV.ok (k := 2) (b := 16) (by decide) ⟨by rw [List.length_map]; exact hl, fun x hx => by
  obtain ⟨A, hA, rfl⟩ := List.mem_map.mp hx
  exact okV.up (Nat.le_refl _) (Nat.le_refl _) (fam_okV (h A hA))⟩
theorem fam_ok' {A : List Str} (h : IsFam A) : okD (.tup (A.map D.str)) = true := (fam_okV h).ok (by decide)
def dFam (A : List Str) : D := .tup (A.map D.str)
def famP (p : List Str → Bool) : D → Bool
  | .tup xs => match strsOf xs with
    | some A => p A
    | none => false
  | _ => false
theorem famP_fam (p : List Str → Bool) (A : List Str) : famP p (dFam A) = p A := by
  show (match strsOf (A.map D.str) with | some A => p A | none => false) = _
  rw [strsOf_map]
theorem filter_fam {p : List Str → Bool} (X : List (List Str)) : (X.map dFam).filter (famP p) = (X.filter p).map dFam := by
  rw [List.filter_map]
  congr 1
  exact List.filter_congr fun A _ => famP_fam p A
theorem while_i {t : MT} {body : MS} {Q : Out → Sto → Prop} {E : Xn → Sto → Prop} (I : Nat → Sg → Sto → Prop)
    (hs : ∀ n g S, I n g S → ∀ Q' : Out → Sto → Prop, (∀ m g2 S2, m < n → I m g2 S2 → Q' (.nx g2) S2) → (∀ m g2 S2, m < n → I m g2 S2 → Q' (.ct g2) S2) → (∀ g2 S2, Q (.nx g2) S2 → Q' (.bk g2) S2) → (∀ d S2, Q (.rt d) S2 → Q' (.rt d) S2) →
      t g S (fun k S1 => T.ite k (fun S2 (_ : Out → Sto → Prop) (E' : Xn → Sto → Prop) => body g S2 Q' E') (T.pure (.nx g)) S1 Q E) E) :
    ∀ (N n : Nat) (g : Sg) (S : Sto), n < N → I n g S → whileN t body N g S Q E
  | 0, n, g, S, hN, h => by omega
  | N + 1, n, g, S, hN, h => by
    have ih := fun m g2 S2 (hm : m < n) (hi : I m g2 S2) => while_i I hs N m g2 S2 (by omega) hi
    have k := hs n g S h (fun o S2 => (match o with
      | .nx g2 => whileN t body N g2
      | .ct g2 => whileN t body N g2
      | .bk g2 => T.pure (.nx g2)
      | .rt d => T.pure (.rt d)) S2 Q E) ih ih (fun _ _ h => h) (fun _ _ h => h)
    have e : (fun (k : Bool) S1 => T.ite k (fun S2 (_ : Out → Sto → Prop) (E' : Xn → Sto → Prop) => body g S2 (fun o S2 => (match o with
      | .nx g2 => whileN t body N g2
      | .ct g2 => whileN t body N g2
      | .bk g2 => T.pure (.nx g2)
      | .rt d => T.pure (.rt d)) S2 Q E) E') (T.pure (.nx g)) S1 Q E) = fun k S1 => T.ite k (T.bind (body g) fun o => match o with
      | .nx g2 => whileN t body N g2
      | .ct g2 => whileN t body N g2
      | .bk g2 => T.pure (.nx g2)
      | .rt d => T.pure (.rt d)) (T.pure (.nx g)) S1 Q E := by
      funext k S1
      cases k with
      | true =>
        refine propext ⟨fun h => ?_, fun h => ?_⟩
        · have h1 := T.iteT h
          exact T.iteT_ h1
        · have h1 := T.iteT h
          exact T.iteT_ h1
      | false =>
        refine propext ⟨fun h => T.iteF_ (T.iteF h), fun h => T.iteF_ (T.iteF h)⟩
    rw [e] at k
    exact k
theorem atI_0 {α : Type} {a : α} {l : List α} : L2.atI (a :: l) 0 = some a := atI_nat (l := a :: l) (i := 0) (Nat.succ_pos _)
def chgP (A : List Str) : D → Bool := famP fun B => decide (B ≠ A)
theorem eqD_fam (A B : List Str) : eqD (dFam A) (dFam B) = decide (A = B) := eqD_tup A B
theorem chg_maps (A : List Str) : (L4.map (sqz A)).filter (fun B => decide (B ≠ A)) = (chg A).map (sqz A) := by
  rw [List.filter_map]; rfl
end Em


set_option Elab.async false
set_option linter.all false
set_option maxRecDepth 100000
set_option maxHeartbeats 4000000
namespace Em
open PySem PySem.Spec PyProof.Rows L2 DL OrdS
/-! ### picked whole -/
def picksB (A : List Str) (s : Str) : Bool := ((setsL 4).filter fun p => inB p s).all fun p => decide (p ∈ A.map (metS s))
def pickd (A : List Str) : List Str := (setsL 4).filter (picksB A)
theorem setsD_len : ((setsL 4).map D.str).length ≤ sizeLine := sz (by rw [List.length_map]; exact Nat.le_trans (sets_len (by decide)) (by decide))
theorem F_picks_r {A : List Str} {s : Str} {S : Sto} (hA : IsFam A) (hs : s ∈ setsL 4) : Ret (F_picks [.tup (A.map D.str), .str s]) S (.bl (picksB A s)) := by
  intro Q E hq
  have lA := hA.len
  have s4 := (sets_ok (n := 4) (by decide) s hs).1
  rw [F_picks_eq]
  delta m_picks
  conv => whnf
  refine ⟨sz (by rw [List.length_map]; omega), ?_⟩
  show lcT _ _ _ _ _ S _ _
  refine lc_m (fun d => match d with | .str t => .str (metS s t) | d => d) (fun d hd => ?_) _ _ ?_
  · obtain ⟨t, ht, rfl⟩ := List.mem_map.mp hd
    intro Q E hq
    conv => whnf
    exact ⟨rfl, F_met_r (by omega) _ _ hq⟩
  · have e1 : ((A.map D.str).map fun d => match d with | .str t => .str (metS s t) | d => d) = (A.map (metS s)).map D.str := by
      rw [List.map_map, List.map_map]; rfl
    rw [e1]
    conv => whnf
    refine ⟨rfl, F_every_set_r (n := 4) (by decide) _ _ ?_⟩
    conv => whnf
    refine ⟨setsD_len, ?_⟩
    show lcT _ _ _ _ _ S _ _
    refine lc_n (strP fun p => inB p s) (fun d => .bl (strP (fun p => decide (p ∈ A.map (metS s))) d)) (fun d hd => ?_) (fun d hd _ => ?_) _ _ ?_
    · obtain ⟨p, hp, rfl⟩ := List.mem_map.mp hd
      intro Q E hq
      conv => whnf
      exact ⟨rfl, F_is_in_r (by have := (sets_ok (n := 4) (by decide) p hp).1; omega) _ _ hq⟩
    · obtain ⟨p, hp, rfl⟩ := List.mem_map.mp hd
      intro Q E hq
      conv => whnf
      refine ⟨.inl ⟨rfl, flat_strs _⟩, ?_⟩
      conv => whnf
      rw [eqD_any]
      exact hq
    · rw [filter_str]
      show dAll [.lst ((((setsL 4).filter fun p => inB p s).map D.str).map fun d => .bl (strP (fun p => decide (p ∈ A.map (metS s))) d))] S _ _
      refine all_fin ?_
      conv => whnf
      exact hq
theorem sub_F {l : List Str} (h : l.Sublist (setsL 4)) : IsFam l := ⟨fun s hs => h.subset hs, (sets_pw (n := 4) (by decide)).sublist h⟩
theorem sets4_f : IsFam (setsL 4) := sub_F (List.Sublist.refl _)
theorem pickd_fam (A : List Str) : IsFam (pickd A) := sub_F List.filter_sublist
/-! ### letters asked -/
def letB (n : Nat) : D → Bool
  | .str s => decide ((s.length : Int) = 1) && strIn s (cutS "abcd" none (some (n : Int)))
  | _ => false
theorem letB_in : ∀ n ≤ 4, ∀ c ∈ L4.take n, letB n (.str c) = true := by decide +kernel
theorem F_need_letter_ok {n : Nat} {c : Str} {S : Sto} (h : n ≤ 4) (hc : c ∈ L4.take n) : Ret (F_need_letter [.int n, .str c]) S .non := by
  intro Q E hq
  have k := letB_in n h c hc
  have k : (decide ((c.length : Int) = 1) && strIn c (cutS "abcd" none (some (n : Int)))) = true := k
  rw [Bool.and_eq_true] at k
  rw [F_need_letter_eq]
  delta m_need_letter
  conv => whnf
  refine ite_f rfl ?_
  conv => whnf
  have k1 := of_decide_eq_true k.1
  refine ⟨sz (by omega), ?_⟩
  conv => whnf
  refine ⟨.inl rfl, ?_⟩
  conv => whnf
  refine ite_f (by
    show (!decide ((c.length : Int) = 1)) = false
    rw [k.1]; rfl) ?_
  conv => whnf
  refine ⟨sz (by decide), ?_⟩
  conv => whnf
  refine ite_f (by
    show (!strIn c (cutS "abcd" none (some (n : Int)))) = false
    rw [k.2]; rfl) ?_
  conv => whnf
  exact hq
theorem eqD_int (a b : Int) : eqD (.int a) (.int b) = decide (a = b) := rfl
theorem F_need_letter_bad {n : Nat} {d : D} {S : Sto} {Q : D → Sto → Prop} {E : Xn → Sto → Prop} (hl : ∀ c, d = .str c → c.length ≤ 1000) (hd : ∃ t, tyN d = some t) (hb : letB n d = false) (he : E ⟨"InvalidLetter", []⟩ S) : F_need_letter [.int n, d] S Q E := by
  rw [F_need_letter_eq]
  delta m_need_letter
  cases d with
  | str c =>
    have hb : (decide ((c.length : Int) = 1) && strIn c (cutS "abcd" none (some (n : Int)))) = false := hb
    conv => whnf
    refine ite_f rfl ?_
    conv => whnf
    refine ⟨sz (by have := hl c rfl; omega), ?_⟩
    conv => whnf
    refine ⟨.inl rfl, ?_⟩
    conv => whnf
    refine ite_i (fun h => ?_) (fun h => ?_)
    · conv => whnf
      exact ite_t rfl he
    · have h : (!decide ((c.length : Int) = 1)) = false := h
      have h' : decide ((c.length : Int) = 1) = true := by simpa using h
      rw [h', Bool.true_and] at hb
      conv => whnf
      refine ⟨sz (by decide), ?_⟩
      conv => whnf
      refine ite_t (by
        show (!strIn c (cutS "abcd" none (some (n : Int)))) = true
        rw [hb]; rfl) ?_
      exact he
  | non => conv => whnf
           refine ite_t rfl ?_
           conv => whnf
           exact ite_t rfl he
  | bl _ => conv => whnf
            refine ite_t rfl ?_
            conv => whnf
            exact ite_t rfl he
  | int _ => conv => whnf
             refine ite_t rfl ?_
             conv => whnf
             exact ite_t rfl he
  | tup _ => conv => whnf
             refine ite_t rfl ?_
             conv => whnf
             exact ite_t rfl he
  | lst _ => conv => whnf
             refine ite_t rfl ?_
             conv => whnf
             exact ite_t rfl he
  | _ => obtain ⟨t, ht⟩ := hd; cases ht
/-! ### the calls -/
end Em


set_option Elab.async false
set_option linter.all false
set_option maxRecDepth 100000
set_option maxHeartbeats 4000000
namespace Em
open PySem PySem.Spec PyProof.Rows L2 DL OrdS
/-! ### the law's own squeezing, pressing, picking -/
theorem okD_strs {l : List Str} (hl : l.length ≤ 16) (h : ∀ s ∈ l, s ∈ setsL 4) : okD (.lst (l.map D.str)) = true := okV.ok (k := 1) (b := 16) (by decide) (okV_strs hl fun s hs => by
  have := sets_ok (n := 4) (by decide) s (h s hs)
  exact ⟨by omega, this.2⟩)
theorem L4_sets : ∀ c ∈ L4, c ∈ setsL 4 := by decide +kernel
theorem chg_ok (A : List Str) : okD (.lst ((chg A).map D.str)) = true := okD_strs (Nat.le_trans (List.length_filter_le _ _) (by decide)) fun c hc => L4_sets c (chg_L4 hc).1
theorem with_eq : ∀ s ∈ setsL 4, ∀ t ∈ setsL 4, withB s t = inB s t := by decide +kernel
theorem F__law_picks_r {A : List Str} {s : Str} {S : Sto} (hA : IsFam A) (hs : s ∈ setsL 4) : Ret (F__law_picks [.tup (A.map D.str), .str s]) S (.bl (picksB A s)) := by
  intro Q E hq
  have lA := hA.len
  have s4 := (sets_ok (n := 4) (by decide) s hs).1
  rw [F__law_picks_eq]
  delta m__law_picks
  conv => whnf
  refine ⟨sz (by rw [List.length_map]; omega), ?_⟩
  show lcT _ _ _ _ _ S _ _
  refine lc_m (fun d => match d with | .str t => .str (metS s t) | d => d) (fun d hd => ?_) _ _ ?_
  · obtain ⟨t, ht, rfl⟩ := List.mem_map.mp hd
    intro Q E hq
    conv => whnf
    exact ⟨rfl, F__law_meet_r (by omega) _ _ hq⟩
  · have e1 : ((A.map D.str).map fun d => match d with | .str t => .str (metS s t) | d => d) = (A.map (metS s)).map D.str := by
      rw [List.map_map, List.map_map]; rfl
    rw [e1]
    conv => whnf
    refine ⟨rfl, F__law_sets_r (n := 4) (by decide) _ _ ?_⟩
    conv => whnf
    refine ⟨setsD_len, ?_⟩
    show lcT _ _ _ _ _ S _ _
    refine lc_n (strP fun p => withB p s) id (fun d hd => ?_) (fun d hd _ => ?_) _ _ ?_
    · obtain ⟨p, hp, rfl⟩ := List.mem_map.mp hd
      intro Q E hq
      conv => whnf
      exact ⟨rfl, F__law_within_r (n := 4) (by decide) hp _ _ hq⟩
    · intro Q E hq
      conv => whnf
      exact hq
    · rw [filter_str, List.map_id]
      have fl : ((setsL 4).filter fun p => strP (fun p => withB p s) (.str p)).length ≤ 16 := Nat.le_trans (List.length_filter_le _ _) (sets_len (by decide))
      conv => whnf
      refine ⟨sz (by rw [List.length_map]; omega), ?_⟩
      show lcT _ _ _ _ _ S _ _
      refine lc_n (strP fun p => !decide (p ∈ A.map (metS s))) id (fun d hd => ?_) (fun d hd _ => ?_) _ _ ?_
      · obtain ⟨p, hp, rfl⟩ := List.mem_map.mp hd
        intro Q E hq
        conv => whnf
        refine ⟨.inl ⟨rfl, flat_strs _⟩, ?_⟩
        conv => whnf
        rw [eqD_any]
        exact hq
      · intro Q E hq
        conv => whnf
        exact hq
      · rw [filter_str, List.map_id]
        have ok : okD (.lst ((((setsL 4).filter fun p => strP (fun p => withB p s) (.str p)).filter fun p => strP (fun p => !decide (p ∈ A.map (metS s))) (.str p)).map D.str)) = true :=
          okD_strs (Nat.le_trans (List.length_filter_le _ _) fl) fun p hp => (List.mem_filter.mp (List.mem_filter.mp hp).1).1
        conv => whnf
        refine ⟨sz (n := 0) (by decide), ?_⟩
        conv => whnf
        refine ⟨.inr ⟨ok, by decide⟩, ?_⟩
        conv => whnf
        rw [eqD_nil ok, List.isEmpty_map]
        have e : (((setsL 4).filter fun p => strP (fun p => withB p s) (.str p)).filter fun p => strP (fun p => !decide (p ∈ A.map (metS s))) (.str p)).isEmpty = picksB A s := by
          have e0 : ((setsL 4).filter fun p => strP (fun p => withB p s) (.str p)) = (setsL 4).filter fun p => inB p s := List.filter_congr fun p hp => with_eq p hp s hs
          rw [e0, Bool.eq_iff_iff, List.isEmpty_iff, List.filter_eq_nil_iff]
          unfold picksB
          rw [List.all_eq_true]
          refine ⟨fun h p hp => ?_, fun h p hp => ?_⟩
          · have := h p hp
            have k : strP (fun p => !decide (p ∈ A.map (metS s))) (.str p) = !decide (p ∈ A.map (metS s)) := rfl
            rw [k] at this
            simpa using this
          · have := h p hp
            have k : strP (fun p => !decide (p ∈ A.map (metS s))) (.str p) = !decide (p ∈ A.map (metS s)) := rfl
            rw [k, this]; decide
        rw [e]
        exact hq
/-! ### what is picked of a squeezed family is picked of it -/
theorem met_no : ∀ s ∈ setsL 4, ∀ a ∈ setsL 4, ∀ c ∈ L4, strIn c s = false → metS s (lessS a c) = metS s a := by decide +kernel
theorem met_les : ∀ s ∈ setsL 4, ∀ a ∈ setsL 4, ∀ c ∈ L4, metS s (lessS a c) = lessS (metS s a) c := by decide +kernel
theorem met_str : ∀ s ∈ setsL 4, ∀ a ∈ setsL 4, ∀ c ∈ L4, strIn c (metS s a) = true → strIn c a = true := by decide +kernel
theorem join_with : ∀ p ∈ setsL 4, ∀ s ∈ setsL 4, ∀ c ∈ L4, strIn c s = true → inB p s = true → inB (joinS p c) s = true ∧ joinS p c ∈ setsL 4 ∧ strIn c (joinS p c) = true := by decide +kernel
theorem join_has : ∀ p ∈ setsL 4, ∀ c ∈ L4, if strIn c p = true then joinS p c = p else lessS (joinS p c) c = p := by decide +kernel
theorem picks_iff {A : List Str} {s : Str} : picksB A s = true ↔ ∀ p ∈ setsL 4, inB p s = true → ∃ a ∈ A, metS s a = p := by
  unfold picksB
  rw [List.all_eq_true]
  refine ⟨fun h p hp hi => ?_, fun h p hp => ?_⟩
  · have := of_decide_eq_true (h p (List.mem_filter.mpr ⟨hp, hi⟩))
    exact List.mem_map.mp this
  · have hp := List.mem_filter.mp hp
    exact decide_eq_true (List.mem_map.mpr (h p hp.1 hp.2))
theorem picks_sqz {A : List Str} (hA : IsFam A) {c s : Str} (hc : c ∈ L4) (hs : s ∈ setsL 4) (h : picksB (sqz A c) s = true) : picksB A s = true := by
  rw [picks_iff] at h ⊢
  intro p hp hi
  cases q : strIn c s with
  | false =>
    obtain ⟨b, hb, e⟩ := h p hp hi
    obtain ⟨a, ha, rfl⟩ := sqz_mem.mp hb
    refine ⟨a, ha, ?_⟩
    unfold sqzF at e
    split at e
    · exact e
    · rw [met_no s hs a (hA.mem a ha) c hc q] at e; exact e
  | true =>
    obtain ⟨i1, i2, i3⟩ := join_with p hp s hs c hc q hi
    obtain ⟨b, hb, e⟩ := h _ i2 i1
    obtain ⟨a, ha, rfl⟩ := sqz_mem.mp hb
    have ma := hA.mem a ha
    unfold sqzF at e
    split at e
    · rename_i hl
      have j := join_has p hp c hc
      cases q2 : strIn c p with
      | true =>
        rw [if_pos q2] at j
        exact ⟨a, ha, by rw [e, j]⟩
      | false =>
        rw [if_neg (by rw [q2]; exact Bool.false_ne_true)] at j
        exact ⟨_, hl, by rw [met_les s hs a ma c hc, e, j]⟩
    · rw [← e] at i3
      have := met_str s hs _ (lessL_in a ma c hc) c hc i3
      rw [lessL_out a ma c hc] at this
      cases this
theorem picks_press : ∀ (n : Nat) {A : List Str}, IsFam A → ∀ {s : Str}, s ∈ setsL 4 → picksB (press n A) s = true → picksB A s = true
  | 0, A, _, s, _, h => h
  | n + 1, A, hA, s, hs, h => by
    unfold press at h
    split at h
    · exact h
    · rename_i c r e
      have hc := chg_L4 (A := A) (c := c) (by rw [e]; exact List.mem_cons_self)
      exact picks_sqz hA hc.1 hs (picks_press n (sqz_fam hA hc.1) hs h)
theorem press_down {A : List Str} (hA : IsFam A) : downL (pressd A) = true := by
  have hP := (press_fam 64 hA).1
  have e := press_end 64 hA (fam_wgt hA)
  unfold downL
  rw [List.all_eq_true]
  intro t ht
  rw [List.all_eq_true]
  intro c hc
  refine decide_eq_true ?_
  have hc4 : c ∈ L4 := by
    have k : ∀ t ∈ setsL 4, ∀ c ∈ lettersOf t, c ∈ L4 := by decide +kernel
    exact k t (hP.mem t ht) c hc
  have hs : sqz (pressd A) c = pressd A := by
    by_cases h : sqz (pressd A) c = pressd A
    · exact h
    · have : c ∈ chg (press 64 A) := List.mem_filter.mpr ⟨hc4, decide_eq_true h⟩
      rw [e] at this
      cases this
  by_cases h : lessS t c ∈ pressd A
  · exact h
  · have : sqzF (pressd A) c t ∈ sqz (pressd A) c := sqz_mem.mpr ⟨t, ht, rfl⟩
    rw [hs] at this
    unfold sqzF at this
    rw [if_neg h] at this
    exact this
end Em


set_option Elab.async false
set_option linter.all false
set_option maxRecDepth 100000
set_option maxHeartbeats 4000000
namespace Em
open PySem PySem.Spec PyProof.Rows L2 DL OrdS
/-! ### shown by lots, boxes -/
def showsB (n : Nat) (A : List Str) (s lot : Str) : Bool := ((setsL n).filter fun t => decide (metS t lot = metS s lot)).all fun t => decide (t ∈ A)
def lotsL (n : Nat) (A : List Str) (s : Str) : List Str := (setsL n).filter (showsB n A s)
def apartB (X Y : List Str) : Bool := X.any fun l => Y.any fun m => decide (metS l m = "")
def boxL (n : Nat) (A B : List Str) : List Str := (setsL n).filter fun s => apartB (lotsL n A s) (lotsL n B s)
theorem sets_D {n : Nat} (h : n ≤ 4) : ((setsL n).map D.str).length ≤ sizeLine := sz (by rw [List.length_map]; exact Nat.le_trans (sets_len h) (by decide))
theorem lots_fam {n : Nat} (h : n ≤ 4) (A : List Str) (s : Str) : IsFam (lotsL n A s) := (sub_fam h List.filter_sublist).1
theorem lots_in {n : Nat} (A : List Str) (s : Str) : ∀ l ∈ lotsL n A s, l ∈ setsL n := fun _ h => (List.mem_filter.mp h).1
theorem box_fam {n : Nat} (h : n ≤ 4) (A B : List Str) : IsFam (boxL n A B) := (sub_fam h List.filter_sublist).1
theorem in4 {n : Nat} (h : n ≤ 4) {s : Str} (hs : s ∈ setsL n) : s ∈ setsL 4 := (sub_fam h (List.Sublist.refl _)).1.mem s hs
theorem bls_flat {X Y : List Str} {f : Str → Str → Bool} {v : D → D → D} (h : ∀ s ∈ X, ∀ t ∈ Y, v (.str s) (.str t) = .bl (f s t)) : ((X.map D.str).flatMap fun d => (Y.map D.str).map (v d)) = (X.flatMap fun s => Y.map (f s)).map D.bl := by
  induction X with
  | nil => rfl
  | cons s X ih =>
    rw [List.map_cons, List.flatMap_cons, List.flatMap_cons, List.map_append, ih fun s hs => h s (List.mem_cons_of_mem _ hs), List.map_map, List.map_map]
    congr 1
    exact List.map_congr_left fun t ht => h s List.mem_cons_self t ht
theorem any_flat {X Y : List Str} (f : Str → Str → Bool) : (X.flatMap fun s => Y.map (f s)).any id = X.any fun s => Y.any (f s) := by
  induction X with
  | nil => rfl
  | cons s X ih => rw [List.flatMap_cons, List.any_append, ih, List.any_cons, List.any_map]; rfl
/-! ### sets asked -/
theorem F_need_set_r {n : Nat} {s : Str} {S : Sto} (h : n ≤ 4) (hs : s ∈ setsL n) : Ret (F_need_set [.int n, .str s]) S .non := by
  intro Q E hq
  rw [F_need_set_eq]
  delta m_need_set
  conv => whnf
  refine ⟨rfl, F_is_good_set_r h ⟨_, rfl⟩ _ _ ?_⟩
  rw [show goodB n (.str s) = true from decide_eq_true ((canon_iff h s).mpr hs)]
  conv => whnf
  refine ite_f rfl ?_
  conv => whnf
  exact hq
theorem F_need_set_bad {n : Nat} {d : D} {S : Sto} {Q : D → Sto → Prop} {E : Xn → Sto → Prop} (h : n ≤ 4) (hd : ∃ t, tyN d = some t) (hf : goodB n d = false) (he : E ⟨"InvalidSet", []⟩ S) : F_need_set [.int n, d] S Q E := by
  rw [F_need_set_eq]
  delta m_need_set
  conv => whnf
  refine ⟨rfl, F_is_good_set_r h hd _ _ ?_⟩
  rw [hf]
  conv => whnf
  exact ite_t rfl he
/-! ### the calls -/
end Em


set_option Elab.async false
set_option linter.all false
set_option maxRecDepth 100000
set_option maxHeartbeats 4000000
namespace Em
open PySem PySem.Spec PyProof.Rows L2 DL OrdS TL
/-! ### texts, cut and joined -/
theorem spl_step {s c : Nat} {acc r : List Nat} : spl [s] 0 acc (c :: r) = if c = s then acc :: spl [s] 0 [] r else spl [s] 0 (acc ++ [c]) r := by
  by_cases h : c = s
  · rw [if_pos h, spl_hit (by subst h; simp [pre])]
    rfl
  · rw [if_neg h, spl_miss (by simp [pre, h])]
theorem spl_ne {s : Nat} : ∀ (l acc : List Nat), spl [s] 0 acc l ≠ []
  | [], acc => by rw [spl_nil]; simp
  | c :: r, acc => by
    rw [spl_step]
    by_cases h : c = s
    · rw [if_pos h]; simp
    · rw [if_neg h]; exact spl_ne r _
theorem join_spl {s : Nat} : ∀ (l acc : List Nat), joinL [s] (spl [s] 0 acc l) = acc ++ l
  | [], acc => by rw [spl_nil]; simp [joinL]
  | c :: r, acc => by
    rw [spl_step]
    by_cases h : c = s
    · rw [if_pos h]
      have ih := join_spl r ([] : List Nat) (s := s)
      cases e : spl [s] 0 [] r with
      | nil => exact absurd e (spl_ne r [])
      | cons p q =>
        rw [e] at ih
        show acc ++ ([s] ++ joinL [s] (p :: q)) = acc ++ c :: r
        rw [ih, h]; rfl
    · rw [if_neg h, join_spl r]; simp
def spc : Str := " "
theorem tl_spc : tl spc = [32] := by decide +kernel
theorem join_split (t : Str) : Str.join spc (Txt.split t spc) = t := by
  refine ext_tl ?_
  rw [tl_join, split_spl t spc (by rw [tl_spc]; simp) (kind_ok (by decide +kernel)), tl_spc, join_spl]
  rfl
theorem split_join' {ps : List Str} (hn : ps ≠ []) (hp : ∀ p ∈ ps, 32 ∉ tl p) : Txt.split (Str.join spc ps) spc = ps := by
  rw [← join_eq]
  exact split_join (s := 32) (S := []) tl_spc (by decide +kernel) hn hp
theorem split_ne (t : Str) : Txt.split t spc ≠ [] := fun h => by
  have e := split_spl t spc (by rw [tl_spc]; simp) (kind_ok (by decide +kernel))
  rw [h, tl_spc] at e
  exact spl_ne _ _ e.symm
/-! ### families as texts -/
def wd (s : Str) : Str := if s = "" then "-" else s
def unwd (w : Str) : Str := if w = "-" then "" else w
def nS (n : Nat) : Str := toString (n : Int)
def txtW (n : Nat) (A : List Str) : Str := Str.join spc (nS n :: A.map wd)
theorem wd_in : ∀ s ∈ setsL 4, 32 ∉ tl (wd s) ∧ unwd (wd s) = s ∧ wd s ≠ "" := by decide +kernel
theorem sets_up : ∀ n : Nat, n ≤ 4 → ∀ s ∈ setsL n, s ∈ setsL 4 := by decide +kernel
theorem dash_no : ∀ n : Nat, n ≤ 4 → ("-" : Str) ∉ setsL n := by decide +kernel
theorem num_no : ∀ n : Nat, n ≤ 4 → 32 ∉ tl (nS n) := by decide +kernel
/-- what is read: by the program's way, by the law's way -/
def numOf (w : Str) : Option Nat := if w = "1" then some 1 else if w = "2" then some 2 else if w = "3" then some 3 else if w = "4" then some 4 else none
theorem numOf_le {w : Str} {n : Nat} (h : numOf w = some n) : 1 ≤ n ∧ n ≤ 4 ∧ nS n = w := by
  unfold numOf at h
  split at h
  · rename_i e; cases h; exact ⟨by decide, by decide, by rw [e]; decide +kernel⟩
  · split at h
    · rename_i e; cases h; exact ⟨by decide, by decide, by rw [e]; decide +kernel⟩
    · split at h
      · rename_i e; cases h; exact ⟨by decide, by decide, by rw [e]; decide +kernel⟩
      · split at h
        · rename_i e; cases h; exact ⟨by decide, by decide, by rw [e]; decide +kernel⟩
        · cases h
def goodW (n : Nat) (w : Str) : Bool := decide (w ≠ "") && (decide (w = "-") || decide (w ∈ setsL n))
def duep (t : Str) : Option (Nat × List Str) := match Txt.split t spc with
  | [] => none
  | w0 :: r => match numOf w0 with
    | none => none
    | some n => if r.all (goodW n) && decide (r.map unwd = sset (r.map unwd)) then some (n, r.map unwd) else none
def readp (t : Str) : Option (Nat × List Str) := match Txt.split t spc with
  | [] => none
  | w0 :: r => match numOf w0 with
    | none => none
    | some n => if famB n (.tup ((r.map unwd).map D.str)) && decide (txtW n (r.map unwd) = t) then some (n, r.map unwd) else none
theorem famB_iff {n : Nat} (h : n ≤ 4) (A : List Str) : famB n (.tup (A.map D.str)) = true ↔ (∀ s ∈ A, s ∈ setsL n) ∧ A.Pairwise Lt := by
  have e : famB n (.tup (A.map D.str)) = ((A.map D.str).all (goodB n) && adjB A) := by
    show (_ && (match strsOf (A.map D.str) with
      | some ss => adjB ss
      | none => false)) = _
    rw [strsOf_map]
  rw [e, Bool.and_eq_true, List.all_map, List.all_eq_true, adj_iff]
  constructor
  · rintro ⟨h1, h2⟩
    refine ⟨fun s hs => ?_, h2⟩
    have := h1 s hs
    exact (canon_iff h s).mp (of_decide_eq_true this)
  · rintro ⟨h1, h2⟩
    exact ⟨fun s hs => decide_eq_true ((canon_iff h s).mpr (h1 s hs)), h2⟩
theorem sset_iff (A : List Str) : A = sset A ↔ A.Pairwise Lt := by
  constructor
  · intro h; rw [h]; exact sset_pw A
  · intro h; exact (sset_self h).symm
theorem read_due (t : Str) : readp t = duep t := by
  unfold readp duep
  cases e : Txt.split t spc with
  | nil => rfl
  | cons w0 r =>
    dsimp only
    cases en : numOf w0 with
    | none => rfl
    | some n =>
      dsimp only
      obtain ⟨n1, n4, ew⟩ := numOf_le en
      have et : t = Str.join spc (w0 :: r) := by rw [← e, join_split]
      have key : (famB n (.tup ((r.map unwd).map D.str)) && decide (txtW n (r.map unwd) = t)) = (r.all (goodW n) && decide (r.map unwd = sset (r.map unwd))) := by
        rw [Bool.eq_iff_iff, Bool.and_eq_true, Bool.and_eq_true, famB_iff n4, List.all_eq_true, decide_eq_true_eq, decide_eq_true_eq, sset_iff]
        constructor
        · rintro ⟨⟨h1, h2⟩, h3⟩
          refine ⟨fun w hw => ?_, h2⟩
          have hs : ∀ w ∈ r, unwd w ∈ setsL n := fun w hw => h1 _ (List.mem_map.mpr ⟨w, hw, rfl⟩)
          have e2 : Txt.split (txtW n (r.map unwd)) spc = nS n :: (r.map unwd).map wd := by
            refine split_join' (by simp) fun p hp => ?_
            rcases List.mem_cons.mp hp with rfl | hp
            · exact num_no n n4
            · obtain ⟨s, hs', rfl⟩ := List.mem_map.mp hp
              exact (wd_in s (sets_up n n4 s (h1 s hs'))).1
          rw [h3, e] at e2
          injection e2 with _ e3
          have hw2 : w ∈ (r.map unwd).map wd := by rw [← e3]; exact hw
          obtain ⟨s, hs', rfl⟩ := List.mem_map.mp hw2
          obtain ⟨_, k2, k3⟩ := wd_in s (sets_up n n4 s (h1 s hs'))
          unfold goodW
          rw [Bool.and_eq_true, Bool.or_eq_true]
          refine ⟨decide_eq_true k3, ?_⟩
          by_cases hd : wd s = "-"
          · exact .inl (decide_eq_true hd)
          · refine .inr (decide_eq_true ?_)
            have : unwd (wd s) = wd s := by unfold unwd; rw [if_neg hd]
            rw [← this, k2]; exact h1 s hs'
        · rintro ⟨h1, h2⟩
          have g : ∀ w ∈ r, w ≠ "" ∧ (w = "-" ∨ w ∈ setsL n) := fun w hw => by
            have := h1 w hw
            unfold goodW at this
            rw [Bool.and_eq_true, Bool.or_eq_true] at this
            exact ⟨of_decide_eq_true this.1, this.2.imp of_decide_eq_true of_decide_eq_true⟩
          have em : ("" : Str) ∈ setsL n := by
            have : ∀ n ≤ 4, ("" : Str) ∈ setsL n := by decide +kernel
            exact this n n4
          refine ⟨⟨fun s hs => ?_, h2⟩, ?_⟩
          · obtain ⟨w, hw, rfl⟩ := List.mem_map.mp hs
            unfold unwd
            rcases (g w hw).2 with hd | hd
            · rw [if_pos hd]; exact em
            · rw [if_neg (fun z => dash_no n n4 (by rw [← z]; exact hd))]; exact hd
          · unfold txtW
            rw [et, ew, List.map_map]
            congr 2
            refine (List.map_congr_left fun w hw => ?_).trans (List.map_id _)
            show wd (unwd w) = w
            unfold wd unwd
            by_cases hd : w = "-"
            · rw [if_pos hd, if_pos rfl, hd]
            · rw [if_neg hd, if_neg (g w hw).1]
      rw [key]
theorem written_read {n : Nat} (h1 : 1 ≤ n) (h4 : n ≤ 4) {A : List Str} (hA : ∀ s ∈ A, s ∈ setsL n) (hp : A.Pairwise Lt) : readp (txtW n A) = some (n, A) := by
  have e2 : Txt.split (txtW n A) spc = nS n :: A.map wd := by
    refine split_join' (by simp) fun p hp => ?_
    rcases List.mem_cons.mp hp with rfl | hp
    · exact num_no n h4
    · obtain ⟨s, hs', rfl⟩ := List.mem_map.mp hp
      exact (wd_in s (sets_up n h4 s (hA s hs'))).1
  have en : numOf (nS n) = some n := by
    have : ∀ n : Nat, n ≤ 4 → 1 ≤ n → numOf (nS n) = some n := by decide +kernel
    exact this n h4 h1
  have eu : (A.map wd).map unwd = A := by
    rw [List.map_map]
    exact (List.map_congr_left fun s hs => (wd_in s (sets_up n h4 s (hA s hs))).2.1).trans (List.map_id _)
  unfold readp
  rw [e2]
  dsimp only
  rw [en]
  dsimp only
  rw [eu, (famB_iff h4 A).mpr ⟨hA, hp⟩, decide_eq_true rfl]
  rfl
end Em


set_option Elab.async false
set_option linter.all false
set_option maxRecDepth 100000
set_option maxHeartbeats 4000000
namespace Em
open PySem PySem.Spec PyProof.Rows L2 DL OrdS
theorem sum_le {k : Nat} : ∀ (ys : List Str), (∀ y ∈ ys, y.length ≤ k) → (ys.map (·.length)).sum ≤ ys.length * k
  | [], _ => by simp
  | y :: r, h => by
    have ih := sum_le r fun z hz => h z (List.mem_cons_of_mem _ hz)
    have h0 := h y List.mem_cons_self
    rw [List.map_cons, List.sum_cons, List.length_cons, Nat.succ_mul]
    omega
theorem wd_len : ∀ s ∈ setsL 4, (wd s).length ≤ 4 := by decide +kernel
theorem F_word_of_r {s : Str} {S : Sto} : Ret (F_word_of [.str s]) S (.str (wd s)) := by
  intro Q E hq
  rw [F_word_of_eq]
  delta m_word_of
  conv => whnf
  refine ⟨.inl rfl, ?_⟩
  conv => whnf
  have e : (!eqD (.str s) (.str "")) = !decide (s = "") := by rw [eqD_str]
  refine ite_i (fun h => ?_) (fun h => ?_)
  · have h : (!eqD (.str s) (.str "")) = true := h
    rw [e] at h
    have h : s ≠ "" := by simpa using h
    conv => whnf
    have : wd s = s := by unfold wd; rw [if_neg h]
    rw [this] at hq; exact hq
  · have h : (!eqD (.str s) (.str "")) = false := h
    rw [e] at h
    have h : s = "" := by simpa using h
    conv => whnf
    have : wd s = "-" := by unfold wd; rw [if_pos h]
    rw [this] at hq; exact hq
theorem txt_sum {n : Nat} (hn : n ≤ 4) {A : List Str} (hA : IsFam A) : ((nS n :: A.map wd).map (·.length)).sum + (nS n :: A.map wd).length * (spc : Str).length ≤ 16777216 := by
  have hl := hA.len
  have h1 := sum_le (k := 4) (nS n :: A.map wd) fun y hy => by
    rcases List.mem_cons.mp hy with rfl | hy
    · have : ∀ n : Nat, n ≤ 4 → (nS n).length ≤ 4 := by decide +kernel
      exact this n hn
    · obtain ⟨s, hs, rfl⟩ := List.mem_map.mp hy
      exact wd_len s (hA.1 s hs)
  have h2 : (spc : Str).length = 1 := by decide +kernel
  rw [h2]
  have h3 : (nS n :: A.map wd).length = A.length + 1 := by simp
  rw [h3] at h1 ⊢
  omega
/-! ### a set put in or taken out -/
def exchL (A : List Str) (s : Str) : List Str := if s ∈ A then A.filter fun t => decide (t ≠ s) else ssort (A ++ [s])
end Em


set_option Elab.async false
set_option linter.all false
set_option maxRecDepth 100000
set_option maxHeartbeats 4000000
namespace Em
open PySem PySem.Spec PyProof.Rows L2 DL OrdS
/-! ### a text read -/
def one4 : List Str := ["1", "2", "3", "4"]
theorem numOf_mem {w : Str} : w ∈ one4 ↔ (numOf w).isSome = true := by
  unfold one4 numOf
  simp only [List.mem_cons, List.not_mem_nil, or_false]
  constructor
  · rintro (h | h | h | h) <;> subst h <;> decide +kernel
  · intro h
    split at h
    · exact .inl ‹_›
    · split at h
      · exact .inr (.inl ‹_›)
      · split at h
        · exact .inr (.inr (.inl ‹_›))
        · split at h
          · exact .inr (.inr (.inr ‹_›))
          · cases h
theorem numOf_int {w : Str} {n : Nat} (h : numOf w = some n) : intText? w = some (n : Int) ∧ w.length ≤ 640 := by
  have hm : w ∈ one4 := numOf_mem.mpr (by rw [h]; rfl)
  have : ∀ w ∈ one4, intText? w = (numOf w).map (fun n : Nat => (n : Int)) ∧ w.length ≤ 640 := by decide +kernel
  obtain ⟨k1, k2⟩ := this w hm
  exact ⟨by rw [k1, h]; rfl, k2⟩
theorem at0 {x : D} {xs : List D} : L2.atI (x :: xs) (0 : Int) = some x := atI_nat (l := x :: xs) (i := 0) (by simp)
theorem strs_ty {l : List Str} : ∀ x ∈ l.map D.str, ∃ t, tyN x = some t := fun x hx => by
  obtain ⟨s, _, rfl⟩ := List.mem_map.mp hx
  exact ⟨_, rfl⟩
theorem spl_len {s : Nat} : ∀ (l acc : List Nat), (TL.spl [s] 0 acc l).length ≤ l.length + 1
  | [], acc => by rw [TL.spl_nil]; simp
  | c :: r, acc => by
    rw [spl_step]
    by_cases h : c = s
    · rw [if_pos h]
      have := spl_len (s := s) r []
      simp; omega
    · rw [if_neg h]
      have := spl_len (s := s) r (acc ++ [c])
      simp; omega
theorem split_len (t : Str) : (Txt.split t spc).length ≤ t.length + 1 := by
  have e := TL.split_spl t spc (by rw [tl_spc]; simp) (TL.kind_ok (by decide +kernel))
  have h := congrArg List.length e
  rw [List.length_map, tl_spc] at h
  rw [h]
  have := spl_len (s := 32) (TL.tl t) []
  have e2 := TL.len_tl t
  omega
end Em


set_option Elab.async false
set_option linter.all false
set_option maxRecDepth 100000
set_option maxHeartbeats 4000000
namespace Em
open PySem PySem.Spec PyProof.Rows L2 DL OrdS
/-! ### the law's reading -/
def resD : Option (Nat × List Str) → D
  | some (n, A) => .tup [.int (n : Nat), .tup (A.map D.str)]
  | none => .str "bad"
theorem unwd_in {n : Nat} (n4 : n ≤ 4) {r : List Str} (h : r.all (goodW n) = true) : ∀ s ∈ r.map unwd, s ∈ setsL n := fun s hs => by
  obtain ⟨w, hw, rfl⟩ := List.mem_map.mp hs
  have g := List.all_eq_true.mp h w hw
  unfold goodW at g
  rw [Bool.and_eq_true, Bool.or_eq_true] at g
  have em : ("" : Str) ∈ setsL n := by
    have : ∀ n : Nat, n ≤ 4 → ("" : Str) ∈ setsL n := by decide +kernel
    exact this n n4
  unfold unwd
  by_cases hd : w = "-"
  · rw [if_pos hd]; exact em
  · rw [if_neg hd]
    rcases g.2 with k | k
    · exact absurd (of_decide_eq_true k) hd
    · exact of_decide_eq_true k
end Em


set_option Elab.async false
set_option linter.all false
set_option maxRecDepth 100000
set_option maxHeartbeats 4000000
namespace Em
open PySem PySem.Spec PyProof.Rows L2 DL OrdS
theorem ssort_self {l : List Str} (h : l.Pairwise Lt) : ssort l = l := (pw_eq (h.imp fun h => lts_asym h) (ssort_pw l) (ssort_perm l).symm).symm
theorem joinL_len {s : Nat} : ∀ ps : List (List Nat), (TL.joinL [s] ps).length ≤ (ps.map List.length).sum + ps.length
  | [] => by simp [TL.joinL]
  | [p] => by simp [TL.joinL]
  | p :: q :: r => by
    have ih := joinL_len (s := s) (q :: r)
    show (p ++ ([s] ++ TL.joinL [s] (q :: r))).length ≤ _
    rw [List.length_append, List.length_append, List.map_cons, List.sum_cons, List.length_cons (a := p)]
    simp only [List.length_cons, List.length_nil] at ih ⊢
    omega
theorem txt_len {n : Nat} (hn : n ≤ 4) {A : List Str} (hA : IsFam A) : (txtW n A).length ≤ 900 := by
  have h := txt_sum hn hA
  have hl := hA.len
  have h1 := sum_le (k := 4) (nS n :: A.map wd) fun y hy => by
    rcases List.mem_cons.mp hy with rfl | hy
    · have : ∀ n : Nat, n ≤ 4 → (nS n).length ≤ 4 := by decide +kernel
      exact this n hn
    · obtain ⟨s, hs, rfl⟩ := List.mem_map.mp hy
      exact wd_len s (hA.1 s hs)
  have h2 := joinL_len (s := 32) ((nS n :: A.map wd).map TL.tl)
  have e : (txtW n A).length = (TL.joinL [32] ((nS n :: A.map wd).map TL.tl)).length := by
    rw [TL.len_tl, show txtW n A = Str.join spc (nS n :: A.map wd) from rfl, TL.tl_join, tl_spc]
  have e2 : ((nS n :: A.map wd).map TL.tl).map List.length = (nS n :: A.map wd).map (·.length) := by
    rw [List.map_map]
    exact List.map_congr_left fun x _ => (TL.len_tl x).symm
  rw [e2, List.length_map] at h2
  have h3 : (nS n :: A.map wd).length = A.length + 1 := by simp
  rw [h3] at h1 h2
  omega
theorem readp_ok {t : Str} {n : Nat} {A : List Str} (h : readp t = some (n, A)) : 1 ≤ n ∧ n ≤ 4 ∧ IsFam A ∧ ∀ s ∈ A, s ∈ setsL n := by
  unfold readp at h
  split at h
  · cases h
  · split at h
    · cases h
    · rename_i m en
      obtain ⟨n1, n4, _⟩ := numOf_le en
      split at h
      · rename_i hk
        injection h with h
        injection h with e1 e2
        subst e1 e2
        obtain ⟨f1, f2⟩ := (famB_iff n4 _).mp (Bool.and_eq_true_iff.mp hk).1
        exact ⟨n1, n4, ⟨fun s hs => sets_up _ n4 s (f1 s hs), f2⟩, f1⟩
      · cases h
/-! ### families as values -/
theorem up_same {S : Sto} {a : Addr} {m : MO} : S.up a m a = some m := by unfold Sto.up; rw [if_pos rfl]
theorem up_ne {S : Sto} {a b : Addr} {m : MO} (h : b ≠ a) : S.up a m b = S b := by unfold Sto.up; rw [if_neg h]
theorem up_up {S : Sto} {a : Addr} {m m' : MO} : (S.up a m).up a m' = S.up a m' := by
  funext b
  unfold Sto.up
  by_cases h : b = a
  · rw [if_pos h, if_pos h]
  · rw [if_neg h, if_neg h, if_neg h]
def famO (n : Nat) (A : List Str) : MO := .ins "Family" [("base", .tup [.int n, .tup (A.map D.str)])]
theorem num_ok {n : Nat} (h1 : 1 ≤ n) (h4 : n ≤ 4) {S : Sto} : Ret (F_need_letters [.int n, .int 4]) S .non := F_need_letters_ok (m := 4) h1 (by omega)
/-! ### a family made set by set -/
theorem exch_end {A : List Str} {s : Str} (hp : (A ++ [s]).Pairwise Lt) : exchL A s = A ++ [s] := by
  have hn : s ∉ A := fun h => by
    have := (List.pairwise_append.mp hp).2.2 s h s (by simp)
    have this : lts s s = true := this
    rw [lts_irr] at this
    cases this
  unfold exchL
  rw [if_neg hn]
  exact ssort_self hp
end Em


set_option Elab.async false
set_option linter.all false
set_option maxRecDepth 100000
set_option maxHeartbeats 4000000
namespace Em
open PySem PySem.Spec PyProof.Rows L2 DL OrdS
/-! ### what is made of values -/
theorem joinS_in' : ∀ n : Nat, n ≤ 4 → ∀ s ∈ setsL n, ∀ t ∈ setsL n, joinS s t ∈ setsL n := by decide +kernel
theorem metS_in' : ∀ n : Nat, n ≤ 4 → ∀ s ∈ setsL n, ∀ t ∈ setsL n, metS s t ∈ setsL n := by decide +kernel
theorem lessS_in' : ∀ n : Nat, n ≤ 4 → ∀ s ∈ setsL n, ∀ t ∈ setsL n, lessS s t ∈ setsL n := by decide +kernel
/-- a family of n letters -/
structure FamN (n : Nat) (A : List Str) : Prop where
  h1 : 1 ≤ n
  h4 : n ≤ 4
  f : IsFam A
  m : ∀ s ∈ A, s ∈ setsL n
theorem made_n {f : Str → Str → Str} {n : Nat} {A B : List Str} (hf : ∀ n : Nat, n ≤ 4 → ∀ s ∈ setsL n, ∀ t ∈ setsL n, f s t ∈ setsL n) (hA : FamN n A) (hB : FamN n B) : FamN n (madeS f A B) := by
  have hm : ∀ s ∈ madeS f A B, s ∈ setsL n := fun s hs => by
    unfold madeS at hs
    rw [sset_mem, List.mem_flatMap] at hs
    obtain ⟨a, ha, hs⟩ := hs
    obtain ⟨b, hb, rfl⟩ := List.mem_map.mp hs
    exact hf n hA.h4 a (hA.m a ha) b (hB.m b hb)
  exact ⟨hA.h1, hA.h4, ⟨fun s hs => sets_up n hA.h4 s (hm s hs), sset_pw _⟩, hm⟩
/-! ### a set put in or taken out -/
theorem exch_n {n : Nat} {A : List Str} {s : Str} (hA : FamN n A) (hs : s ∈ setsL n) : FamN n (exchL A s) := by
  have key : (∀ t ∈ exchL A s, t ∈ setsL n) ∧ (exchL A s).Pairwise Lt := by
    unfold exchL
    by_cases h : s ∈ A
    · rw [if_pos h]
      exact ⟨fun t ht => hA.m t (List.mem_filter.mp ht).1, hA.f.2.sublist List.filter_sublist⟩
    · rw [if_neg h]
      have p := ssort_perm (A ++ [s])
      have hnd : (A ++ [s]).Nodup := List.nodup_append.mpr ⟨pw_nodup hA.f.2, List.nodup_cons.mpr ⟨by simp, List.nodup_nil⟩, fun a ha b hb e => h (by rw [List.mem_singleton.mp hb] at e; rw [← e]; exact ha)⟩
      refine ⟨fun t ht => ?_, ?_⟩
      · rcases List.mem_append.mp (p.mem_iff.mp ht) with ht | ht
        · exact hA.m t ht
        · rw [List.mem_singleton.mp ht]; exact hs
      · have e : ssort (A ++ [s]) = sset (A ++ [s]) := pw_eq (ssort_pw _) ((sset_pw _).imp fun h => lts_asym h) (p.trans (nodup_perm hnd (sset_nodup _) fun z => (sset_mem z _).symm))
        rw [e]; exact sset_pw _
  exact ⟨hA.h1, hA.h4, ⟨fun t ht => sets_up n hA.h4 t (key.1 t ht), key.2⟩, key.1⟩
/-! ### asked -/
def strIs : D → Bool
  | .str _ => true
  | _ => false
end Em


set_option Elab.async false
set_option linter.all false
set_option maxRecDepth 100000
set_option maxHeartbeats 4000000
namespace Em
open PySem PySem.Spec PyProof.Rows L2 DL OrdS
def inD (A : List Str) : D → Bool
  | .str s => decide (s ∈ A)
  | _ => false
theorem toP_nf (n : Nat) (A : List Str) : toP (.tup [.int (n : Nat), .tup (A.map D.str)]) = some (.tuple [.int n, .tuple (A.map PyData.str)]) := by
  rw [toP, toPs, toP, toPs, toP, toPs_strs, toPs]
  rfl
theorem eqD_nf (n m : Nat) (A B : List Str) : eqD (.tup [.int (n : Nat), .tup (A.map D.str)]) (.tup [.int (m : Nat), .tup (B.map D.str)]) = (decide (n = m) && decide (A = B)) := by
  rw [eqD_of (toP_nf n A) (toP_nf m B)]
  show (decide ((n : Int) = m) && (PyData.eqvAll (A.map PyData.str) (B.map PyData.str) && true)) = _
  rw [eqvAll_strs, Bool.and_true]
  congr 1
  by_cases h : n = m
  · rw [decide_eq_true h, decide_eq_true (by rw [h])]
  · rw [decide_eq_false h, decide_eq_false (by omega)]
theorem okD_nf {n : Nat} {A : List Str} (hA : IsFam A) : okD (.tup [.int (n : Nat), .tup (A.map D.str)]) = true := okV.ok (k := 2) (b := 1000) (by decide) ⟨by simp, fun x hx => by
  simp only [List.mem_cons, List.not_mem_nil, or_false] at hx
  rcases hx with rfl | rfl
  · exact True.intro
  · have hl := hA.len
    exact ⟨by rw [List.length_map]; omega, fun y hy => by
      obtain ⟨s, hs, rfl⟩ := List.mem_map.mp hy
      have := sets_ok (n := 4) (by decide) s (hA.1 s hs)
      exact ⟨by omega, this.2⟩⟩⟩
end Em


set_option Elab.async false
set_option linter.all false
set_option maxRecDepth 100000
set_option maxHeartbeats 4000000
namespace Em
open PySem PySem.Spec PyProof.Rows L2 DL OrdS
/-! ### what stands in the store stays -/
def Keep (S S' : Sto) : Prop := ∀ a m, S a = some m → S' a = some m
theorem Keep.rfl' {S : Sto} : Keep S S := fun _ _ h => h
theorem Keep.trans {S S' S2 : Sto} (h : Keep S S') (k : Keep S' S2) : Keep S S2 := fun a m e => k a m (h a m e)
theorem Keep.none {S S' : Sto} (h : Keep S S') {a : Addr} (e : S' a = none) : S a = none := by
  cases q : S a with
  | none => rfl
  | some m => rw [h a m q] at e; cases e
theorem keep_up {S : Sto} {x : Addr} {m : MO} (h : S x = none) : Keep S (S.up x m) := fun a m' e => by
  rw [up_ne (fun z => by rw [z, h] at e; cases e)]; exact e
def RetK {α : Type} (m : T α) (S : Sto) (v : α) : Prop := ∀ (Q : α → Sto → Prop) (E : Xn → Sto → Prop), (∀ S', Keep S S' → Q v S') → m S Q E
theorem fam_pre {n : Nat} {A B : List Str} (h : FamN n (A ++ B)) : FamN n A :=
  ⟨h.h1, h.h4, ⟨fun s hs => h.f.1 s (List.mem_append_left _ hs), (List.pairwise_append.mp h.f.2).1⟩, fun s hs => h.m s (List.mem_append_left _ hs)⟩
end Em


set_option Elab.async false
set_option linter.all false
set_option maxRecDepth 100000
set_option maxHeartbeats 4000000
namespace Em
open PySem PySem.Spec PyProof.Rows L2 DL OrdS
/-! ### what is refused -/
theorem fam_nil {n : Nat} (h1 : 1 ≤ n) (h4 : n ≤ 4) : FamN n [] := ⟨h1, h4, ⟨fun _ h => (by cases h), List.Pairwise.nil⟩, fun _ h => (by cases h)⟩
def qUn : Str := "_law_unlike_right.<locals>.<lambda>"
def oddX : List D := [.non, .str "e", .str "ba", .int 0, .str "abcde", .tup [.str "a"]]
theorem oddX_no : ∀ n : Nat, n ≤ 4 → ∀ d ∈ oddX, goodB n d = false := by decide +kernel
theorem oddX_ty : ∀ d ∈ oddX, ∃ t, tyN d = some t := fun d hd => by
  simp only [oddX, List.mem_cons, List.not_mem_nil, or_false] at hd
  rcases hd with rfl | rfl | rfl | rfl | rfl | rfl <;> exact ⟨_, rfl⟩
theorem oddI_no (L : Nat) : ∀ d ∈ ([.non, .int (-1), .int (L : Nat), .bl true, .str "0"] : List D), numB 0 ((L : Int) - 1) d = false ∧ ∃ t, tyN d = some t := fun d hd => by
  simp only [List.mem_cons, List.not_mem_nil, or_false] at hd
  rcases hd with rfl | rfl | rfl | rfl | rfl
  · exact ⟨rfl, _, rfl⟩
  · exact ⟨by unfold numB; simp, _, rfl⟩
  · exact ⟨by unfold numB; simp; omega, _, rfl⟩
  · exact ⟨rfl, _, rfl⟩
  · exact ⟨rfl, _, rfl⟩
end Em


set_option Elab.async false
set_option linter.all false
set_option maxRecDepth 100000
set_option maxHeartbeats 4000000
namespace Em
open PySem PySem.Spec PyProof.Rows L2 DL OrdS
theorem range_get (A : List Str) : (List.range A.length).map (fun k => D.str (A.getD k "")) = A.map D.str := by
  apply List.ext_getElem
  · simp
  · intro i h1 h2
    simp at h1 h2
    simp [List.getD, List.getElem?_eq_getElem h1]
theorem eq_bl (b : Bool) : (!eqD (.bl b) (.bl b)) = false := by cases b <;> rfl
def oddC : List D := [.non, .int 0, .str "ba", .tup [.str "a"]]
theorem any_no {A : List Str} {d : D} (h : ∀ s : Str, eqD (.str s) d = false) : ((A.map D.str).any fun z => eqD z d) = false := by
  rw [List.any_map, List.any_eq_false]
  exact fun s _ => by simp [h s]
theorem in_any {A : List Str} {d : D} (hd : d ∈ (setsL 4).map D.str ++ oddC) : (∃ t, tyN d = some t) ∧ okD d = true ∧ ((A.map D.str).any fun z => eqD z d) = inD A d := by
  rcases List.mem_append.mp hd with hd | hd
  · obtain ⟨s, hs, rfl⟩ := List.mem_map.mp hd
    have := sets_ok (n := 4) (by decide) s hs
    exact ⟨⟨_, rfl⟩, okV.ok (k := 0) (b := 1000) (by decide) ⟨by omega, this.2⟩, eqD_any s A⟩
  · simp only [oddC, List.mem_cons, List.not_mem_nil, or_false] at hd
    rcases hd with rfl | rfl | rfl | rfl
    · exact ⟨⟨_, rfl⟩, by decide +kernel, any_no fun s => rfl⟩
    · exact ⟨⟨_, rfl⟩, by decide +kernel, any_no fun s => rfl⟩
    · exact ⟨⟨_, rfl⟩, by decide +kernel, eqD_any "ba" A⟩
    · exact ⟨⟨_, rfl⟩, by decide +kernel, any_no fun s => rfl⟩
end Em


set_option Elab.async false
set_option linter.all false
set_option maxRecDepth 100000
set_option maxHeartbeats 4000000
namespace Em
open PySem PySem.Spec PyProof.Rows L2 DL OrdS
/-! ### benches -/
def benO (n : Nat) (A : List Str) (p : Addr) : MO := .ins "Bench" [("base", .int n), ("now", .tup (A.map D.str)), ("past", .ref p)]
def pastO (past : List (List Str)) : MO := .lst (past.map dFam)
structure Ben (S : Sto) (x p : Addr) (n : Nat) (A : List Str) (past : List (List Str)) : Prop where
  hx : S x = some (benO n A p)
  hp : S p = some (pastO past)
theorem Ben.ne {S : Sto} {x p : Addr} {n : Nat} {A : List Str} {past : List (List Str)} (h : Ben S x p n A past) : x ≠ p := fun e => by
  have := h.hx
  rw [e, h.hp] at this
  unfold benO pastO at this
  cases this
/-- all but the bench and its list stays -/
structure Kp (x p : Addr) (S S' : Sto) : Prop where
  src : ∀ a, S a = some .src → S' a = some .src
  tab : ∀ a q, S a = some (.tab q) → S' a = some (.tab q)
  oth : ∀ a m, a ≠ x → a ≠ p → S a = some m → S' a = some m
theorem Kp.rfl' {x p : Addr} {S : Sto} : Kp x p S S := ⟨fun _ h => h, fun _ _ h => h, fun _ _ _ _ h => h⟩
theorem Kp.trans {x p : Addr} {S S1 S2 : Sto} (a : Kp x p S S1) (b : Kp x p S1 S2) : Kp x p S S2 := ⟨fun x h => b.src x (a.src x h), fun x q h => b.tab x q (a.tab x q h), fun y m n1 n2 h => b.oth y m n1 n2 (a.oth y m n1 n2 h)⟩
theorem Keep.kp {x p : Addr} {S S' : Sto} (h : Keep S S') : Kp x p S S' := ⟨fun a e => h a _ e, fun a q e => h a _ e, fun a m _ _ e => h a m e⟩
theorem kp_up {x p y : Addr} {S : Sto} {m m' : MO} (hx : S y = some m) (h1 : m ≠ .src) (h2 : ∀ q, m ≠ .tab q) (hy : y = x ∨ y = p) : Kp x p S (S.up y m') :=
  ⟨fun a e => by rw [up_ne (fun z => by rw [z, hx] at e; cases e; exact h1 rfl)]; exact e, fun a q e => by rw [up_ne (fun z => by rw [z, hx] at e; cases e; exact h2 q rfl)]; exact e, fun a m n1 n2 e => by
    rw [up_ne (fun z => by rcases hy with h | h; exact n1 (z.trans h); exact n2 (z.trans h))]; exact e⟩
theorem ben_set {S : Sto} {x p : Addr} {n : Nat} {A A' : List Str} {past past' : List (List Str)} (h : Ben S x p n A past) : Ben ((S.up p (pastO past')).up x (benO n A' p)) x p n A' past' ∧ Kp x p S ((S.up p (pastO past')).up x (benO n A' p)) := by
  have ne := h.ne
  have hx : (S.up p (pastO past')) x = some (benO n A p) := by rw [up_ne ne]; exact h.hx
  refine ⟨⟨up_same, by rw [up_ne (Ne.symm ne), up_same]⟩, ?_⟩
  exact (kp_up h.hp (by unfold pastO; exact fun z => nomatch z) (by unfold pastO; exact fun q z => nomatch z) (.inr rfl)).trans (kp_up hx (by unfold benO; exact fun z => nomatch z) (by unfold benO; exact fun q z => nomatch z) (.inl rfl))
-- only: k14 k15 k17 k18 k20
theorem F_Bench_init_r {n : Nat} {x : Addr} {S : Sto} {Q : D → Sto → Prop} {E : Xn → Sto → Prop} (h1 : 1 ≤ n) (h4 : n ≤ 4) (hx : S x = some (.ins "Bench" [])) (hq : ∀ S' p, Ben S' x p n [] [] → (∀ a m, a ≠ x → S a = some m → S' a = some m) → Q .non S') : F_Bench_init [.ref x, .int n] S Q E := by
  rw [F_Bench_init_eq]
  delta m_Bench_init
  conv => whnf
  refine ⟨rfl, num_ok h1 h4 _ _ ?_⟩
  conv => whnf
  refine ⟨x, _, rfl, hx, ?_⟩
  conv => whnf
  refine ⟨by decide, ?_⟩
  conv => whnf
  refine ⟨sz (n := 0) (by decide), ?_⟩
  conv => whnf
  refine ⟨x, _, rfl, up_same, ?_⟩
  conv => whnf
  refine ⟨show (1 : Nat) < 1000 from by decide, ?_⟩
  conv => whnf
  refine ⟨sz (n := 0) (by decide), ?_⟩
  conv => whnf
  intro p hp
  conv => whnf
  have hpx : p ≠ x := fun e => by rw [e, up_same] at hp; cases hp
  have e1 : ((S.up x (.ins "Bench" (putD "base" (.int n) []))).up x (.ins "Bench" (putD "now" (.tup []) (putD "base" (.int n) [])))) x = some (.ins "Bench" (putD "now" (.tup []) (putD "base" (.int n) []))) := up_same
  refine ⟨x, _, rfl, by rw [up_ne (Ne.symm hpx)]; exact e1, ?_⟩
  conv => whnf
  refine ⟨show (2 : Nat) < 1000 from by decide, ?_⟩
  conv => whnf
  refine hq _ p ⟨up_same, ?_⟩ fun a m ha e => ?_
  · rw [up_ne hpx, up_same]; rfl
  · have hap : a ≠ p := fun z => by
      rw [z] at e
      rw [up_ne hpx, up_ne hpx, e] at hp
      cases hp
    rw [up_ne ha, up_ne hap, up_ne ha, up_ne ha]; exact e
-- only: k14 k15 k17 k18 k20
theorem bench_make {n : Nat} {S : Sto} {Q : Addr → Sto → Prop} {E : Xn → Sto → Prop} (h1 : 1 ≤ n) (h4 : n ≤ 4) (hq : ∀ x S' p, Ben S' x p n [] [] → S x = none → Keep S S' → Q x S') : ∀ x, S x = none → needN 2 F_Bench_init (.ref x :: [.int n]) (S.up x (.ins "Bench" [])) (fun d S' => d = .non ∧ Q x S') E := by
  intro x hx
  refine ⟨rfl, F_Bench_init_r h1 h4 up_same fun S' p hb hk => ⟨rfl, hq x S' p hb hx fun a m e => ?_⟩⟩
  have ha : a ≠ x := fun z => by rw [z, hx] at e; cases e
  exact hk a m ha (by rw [up_ne ha]; exact e)
-- only: k14 k15 k17 k18 k20
theorem F_Bench_keep_r {n : Nat} {x p : Addr} {A A' : List Str} {past : List (List Str)} {S : Sto} {Q : D → Sto → Prop} {E : Xn → Sto → Prop} (hA : IsFam A) (hA' : IsFam A') (h : Ben S x p n A past) (hl : past.length < 40)
    (hq : ∀ S', Ben S' x p n A' (past ++ [A]) → Kp x p S S' → Q (.bl (!decide (A = A'))) S') : F_Bench_keep [.ref x, .tup (A'.map D.str)] S Q E := by
  rw [F_Bench_keep_eq]
  delta m_Bench_keep
  conv => whnf
  refine ⟨x, _, rfl, h.hx, ?_⟩
  conv => whnf
  refine ⟨p, _, rfl, h.hp, ?_⟩
  conv => whnf
  refine ite_f (by show decide ((40 : Int) ≤ ((past.map dFam).length : Nat)) = false; rw [List.length_map]; exact decide_eq_false (by omega)) ?_
  conv => whnf
  refine ⟨x, _, rfl, h.hx, ?_⟩
  conv => whnf
  refine ⟨x, _, rfl, h.hx, ?_⟩
  conv => whnf
  refine ⟨p, _, rfl, h.hp, ?_⟩
  conv => whnf
  refine ⟨p, _, rfl, h.hp, ?_⟩
  conv => whnf
  refine ⟨sz (by rw [List.length_map]; show _ + 1 ≤ _; omega), ?_⟩
  conv => whnf
  refine ⟨x, _, rfl, by rw [up_ne h.ne]; exact h.hx, ?_⟩
  conv => whnf
  refine ⟨show (3 : Nat) < 1000 from by decide, ?_⟩
  conv => whnf
  refine ⟨.inr ⟨fam_ok hA, fam_ok hA'⟩, ?_⟩
  conv => whnf
  have key := ben_set (A' := A') (past' := past ++ [A]) h
  have e : past.map dFam ++ [.tup (A.map D.str)] = (past ++ [A]).map dFam := by simp [dFam]
  show Q (.bl (!eqD (.tup (A.map D.str)) (.tup (A'.map D.str)))) ((S.up p (.lst (past.map dFam ++ [.tup (A.map D.str)]))).up x (benO n A' p))
  rw [e, eqD_tup]
  exact hq _ key.1 key.2
/-! ### read -/
section
variable {n : Nat} {x p : Addr} {A : List Str} {past : List (List Str)} {S : Sto}
-- only: k14 k15 k17 k18 k20
theorem F_Bench_letters_r (h : Ben S x p n A past) : Ret (F_Bench_letters [.ref x]) S (.int n) := by
  intro Q E hq
  rw [F_Bench_letters_eq]
  delta m_Bench_letters
  conv => whnf
  refine ⟨x, _, rfl, h.hx, ?_⟩
  conv => whnf
  exact hq
theorem F_Bench_family_r (h : Ben S x p n A past) : Ret (F_Bench_family [.ref x]) S (.tup (A.map D.str)) := by
  intro Q E hq
  rw [F_Bench_family_eq]
  delta m_Bench_family
  conv => whnf
  refine ⟨x, _, rfl, h.hx, ?_⟩
  conv => whnf
  exact hq
def cntD (A : List Str) : D := .tup [.int (madeS joinS A A).length, .int (madeS metS A A).length, .int (madeS lessS A A).length]
theorem F_Bench_counts_r (hA : IsFam A) (h : Ben S x p n A past) : Ret (F_Bench_counts [.ref x]) S (cntD A) := by
  intro Q E hq
  rw [F_Bench_counts_eq]
  delta m_Bench_counts
  conv => whnf
  refine ⟨x, _, rfl, h.hx, ?_⟩
  conv => whnf
  refine ⟨rfl, F_joins_of_r hA hA _ _ ?_⟩
  conv => whnf
  refine ⟨rfl, F_meets_of_r hA hA _ _ ?_⟩
  conv => whnf
  refine ⟨rfl, F_differences_of_r hA hA _ _ ?_⟩
  conv => whnf
  refine ⟨sz (n := 3) (by decide), ?_⟩
  conv => whnf
  rw [List.length_map, List.length_map, List.length_map]
  exact hq
theorem F_Bench_len_r (h : Ben S x p n A past) : Ret (F_Bench_len [.ref x]) S (.int (past.length : Nat)) := by
  intro Q E hq
  rw [F_Bench_len_eq]
  delta m_Bench_len
  conv => whnf
  refine ⟨x, _, rfl, h.hx, ?_⟩
  conv => whnf
  refine ⟨p, _, rfl, h.hp, ?_⟩
  conv => whnf
  rw [List.length_map]
  exact hq
theorem F_Bench_bool_r (hA : IsFam A) (h : Ben S x p n A past) : Ret (F_Bench_bool [.ref x]) S (.bl (downB A)) := by
  intro Q E hq
  rw [F_Bench_bool_eq]
  delta m_Bench_bool
  conv => whnf
  refine ⟨x, _, rfl, h.hx, ?_⟩
  conv => whnf
  refine ⟨rfl, F_is_closed_down_r hA _ _ ?_⟩
  conv => whnf
  exact hq
theorem F_Bench_getitem_r {i : Nat} (hA : IsFam A) (hi : i < A.length) (h : Ben S x p n A past) : Ret (F_Bench_getitem [.ref x, .int i]) S (.str A[i]) := by
  intro Q E hq
  have hl := hA.len
  rw [F_Bench_getitem_eq]
  delta m_Bench_getitem
  conv => whnf
  refine ⟨x, _, rfl, h.hx, ?_⟩
  conv => whnf
  refine ⟨rfl, F_is_number_r ⟨_, rfl⟩ _ _ ?_⟩
  have e1 : numB 0 (((A.map D.str).length : Int) - 1) (.int i) = true := by unfold numB; rw [List.length_map]; simp; omega
  conv => whnf
  refine ite_f (by show (!numB 0 (((A.map D.str).length : Int) - 1) (.int i)) = false; rw [e1]; rfl) ?_
  conv => whnf
  refine ⟨x, _, rfl, h.hx, ?_⟩
  conv => whnf
  refine opt_s (show L2.atI (A.map D.str) (i : Int) = some (.str A[i]) by rw [atI_nat (by simpa using hi)]; simp) ?_
  exact hq
theorem F_Bench_getitem_bad {d : D} {Q : D → Sto → Prop} {E : Xn → Sto → Prop} (hA : IsFam A) (hd : ∃ t, tyN d = some t) (hb : numB 0 ((A.length : Int) - 1) d = false) (h : Ben S x p n A past) (he : E ⟨"InvalidNumber", []⟩ S) : F_Bench_getitem [.ref x, d] S Q E := by
  rw [F_Bench_getitem_eq]
  delta m_Bench_getitem
  conv => whnf
  refine ⟨x, _, rfl, h.hx, ?_⟩
  conv => whnf
  refine ⟨rfl, F_is_number_r hd _ _ ?_⟩
  rw [List.length_map]
  conv => whnf
  refine ite_t (by show (!numB 0 ((A.length : Int) - 1) d) = true; rw [hb]; rfl) ?_
  conv => whnf
  exact he
theorem F_Bench_contains_r {d : D} (hd : ∃ t, tyN d = some t) (h : Ben S x p n A past) : Ret (F_Bench_contains [.ref x, d]) S (.bl (inD A d)) := by
  intro Q E hq
  rw [F_Bench_contains_eq]
  delta m_Bench_contains
  cases d with
  | str s =>
    conv => whnf
    refine ite_t (rfl) ?_
    conv => whnf
    refine ⟨x, _, rfl, h.hx, ?_⟩
    conv => whnf
    refine ⟨.inl ⟨rfl, flat_strs _⟩, ?_⟩
    conv => whnf
    have e : ((A.map D.str).any fun z => eqD z (.str s)) = decide (s ∈ A) := eqD_any s A
    show Q (.bl ((A.map D.str).any fun z => eqD z (.str s))) S
    rw [e]; exact hq
  | non => conv => whnf
           refine ite_f rfl ?_
           conv => whnf
           exact hq
  | bl _ => conv => whnf
            refine ite_f rfl ?_
            conv => whnf
            exact hq
  | int _ => conv => whnf
             refine ite_f rfl ?_
             conv => whnf
             exact hq
  | tup _ => conv => whnf
             refine ite_f rfl ?_
             conv => whnf
             exact hq
  | lst _ => conv => whnf
             refine ite_f rfl ?_
             conv => whnf
             exact hq
  | _ => obtain ⟨t, ht⟩ := hd; cases ht
theorem F_Bench_eq_r {m : Nat} {B : List Str} {y q : Addr} {past' : List (List Str)} (hA : IsFam A) (hB : IsFam B) (h : Ben S x p n A past) (h2 : Ben S y q m B past') : Ret (F_Bench_eq [.ref x, .ref y]) S (.bl (decide (n = m) && decide (A = B))) := by
  intro Q E hq
  rw [F_Bench_eq_eq]
  delta m_Bench_eq
  conv => whnf
  refine ⟨.ref y, rfl, .inl ⟨⟨y, _, rfl, h2.hx⟩, ?_⟩⟩
  conv => whnf
  refine ite_t (rfl) ?_
  conv => whnf
  refine ⟨x, _, rfl, h.hx, ?_⟩
  conv => whnf
  refine ⟨x, _, rfl, h.hx, ?_⟩
  conv => whnf
  refine ⟨sz (n := 2) (by decide), ?_⟩
  conv => whnf
  refine ⟨y, _, rfl, h2.hx, ?_⟩
  conv => whnf
  refine ⟨y, _, rfl, h2.hx, ?_⟩
  conv => whnf
  refine ⟨sz (n := 2) (by decide), ?_⟩
  conv => whnf
  refine ⟨.inr ⟨okD_nf hA, okD_nf hB⟩, ?_⟩
  conv => whnf
  show Q (.bl (eqD (.tup [.int (n : Nat), .tup (A.map D.str)]) (.tup [.int (m : Nat), .tup (B.map D.str)]))) S
  rw [eqD_nf]; exact hq
theorem F_Bench_eq_no {d : D} (hd : ∃ t, tyN d = some t) (h : Ben S x p n A past) : Ret (F_Bench_eq [.ref x, d]) S (.bl false) := by
  intro Q E hq
  rw [F_Bench_eq_eq]
  delta m_Bench_eq
  conv => whnf
  refine ⟨d, rfl, .inr ⟨hd, ?_⟩⟩
  conv => whnf
  refine ite_f (rfl) ?_
  conv => whnf
  exact hq
def lineS (A : List Str) (s : Str) : Str := wd s ++ (if picksB A s then " whole" else " part")
theorem line_eq : ∀ s ∈ setsL 4, ∀ b : Bool, Str.empty ++ wd s ++ " " ++ (if b then "whole" else "part") = wd s ++ (if b then " whole" else " part") := by decide +kernel
theorem wd_ok : ∀ s ∈ setsL 4, (wd s).length ≤ 1000 ∧ (Str.empty ++ wd s).length ≤ 1000 ∧ (Str.empty ++ wd s ++ " ").length ≤ 1000 ∧ ∀ b : Bool, (Str.empty ++ wd s ++ " " ++ (if b then "whole" else "part")).length ≤ 1000 := by decide +kernel
theorem y_m {i : Nat} {me : ME} {S : Sto} (v : D → D) (G : Sg → Prop) (hG : ∀ g d, G g → G (g.set i (.va d))) : ∀ {ds : List D}, (∀ d ∈ ds, ∀ g, G g → Ret (me (g.set i (.va d))) S (v d)) → ∀ g, G g → Ret (yT (gN i) me ds g) S (ds.map v)
  | [], _, g, _ => fun Q E h => h
  | d :: r, h, g, hg => fun Q E hq => by
    refine h d List.mem_cons_self g hg _ _ ?_
    exact y_m v G hG (fun d hd => h d (List.mem_cons_of_mem _ hd)) _ (hG g d hg) _ _ hq
theorem F_Bench_lines_r (hA : IsFam A) (h : Ben S x p n A past) : Ret (F_Bench_lines [.ref x]) S ((A.map (lineS A)).map D.str) := by
  intro Q E hq
  have hl := hA.len
  rw [F_Bench_lines_eq]
  delta m_Bench_lines
  conv => whnf
  refine ⟨x, _, rfl, h.hx, ?_⟩
  conv => whnf
  refine ⟨by rw [List.length_map]; omega, ?_⟩
  refine y_m (fun d => match d with | .str s => .str (lineS A s) | d => d) (fun g => ∃ s, g = [.va (.ref x), .va (.tup (A.map D.str)), s]) (fun g d ⟨s, e⟩ => ⟨.va d, by rw [e]; rfl⟩) (fun d hd g ⟨s2, e⟩ => ?_) _ ⟨.un, rfl⟩ _ _ ?_
  · obtain ⟨s, hs, rfl⟩ := List.mem_map.mp hd
    subst e
    have hs4 := hA.1 s hs
    obtain ⟨w1, w2, w3, w4⟩ := wd_ok s hs4
    intro Q E hq
    conv => whnf
    refine ⟨rfl, F_word_of_r _ _ ?_⟩
    conv => whnf
    refine ⟨sz (by omega), ?_⟩
    conv => whnf
    refine ⟨sz (by omega), ?_⟩
    conv => whnf
    refine ⟨sz (by omega), ?_⟩
    conv => whnf
    refine ⟨rfl, F_picks_r hA hs4 _ _ ?_⟩
    have w5 := w4 (picksB A s)
    have le := line_eq s hs4 (picksB A s)
    have hq : Q (.str (wd s ++ (if picksB A s then " whole" else " part"))) S := hq
    rw [← le] at hq
    generalize picksB A s = b at hq w5
    cases b
    · conv => whnf
      refine ite_f (rfl) ?_
      conv => whnf
      refine ⟨sz (n := 4) (by decide), ?_⟩
      conv => whnf
      refine ⟨sz (by show (Str.empty ++ wd s ++ " " ++ "part").length ≤ _; exact Nat.le_trans w5 (by decide)), ?_⟩
      conv => whnf
      exact hq
    · conv => whnf
      refine ite_t (rfl) ?_
      conv => whnf
      refine ⟨sz (n := 5) (by decide), ?_⟩
      conv => whnf
      refine ⟨sz (by show (Str.empty ++ wd s ++ " " ++ "whole").length ≤ _; exact Nat.le_trans w5 (by decide)), ?_⟩
      conv => whnf
      exact hq
  · rw [List.map_map] at hq ⊢
    exact hq
end
end Em


set_option Elab.async false
set_option linter.all false
set_option maxRecDepth 100000
set_option maxHeartbeats 4000000
namespace Em
open PySem PySem.Spec PyProof.Rows L2 DL OrdS
/-! ### benches changed -/
theorem sset_n {n : Nat} {l : List Str} (h1 : 1 ≤ n) (h4 : n ≤ 4) (hm : ∀ s ∈ l, s ∈ setsL n) : FamN n (sset l) := by
  have hm' : ∀ s ∈ sset l, s ∈ setsL n := fun s hs => hm s ((sset_mem s l).mp hs)
  exact ⟨h1, h4, ⟨fun s hs => sets_up n h4 s (hm' s hs), sset_pw _⟩, hm'⟩
theorem flt_n {n : Nat} {A : List Str} (p : Str → Bool) (hA : FamN n A) : FamN n (A.filter p) := ⟨hA.h1, hA.h4, ⟨fun s hs => hA.f.1 s (List.mem_filter.mp hs).1, hA.f.2.sublist List.filter_sublist⟩, fun s hs => hA.m s (List.mem_filter.mp hs).1⟩
theorem sqz_n {n : Nat} {A : List Str} {c : Str} (hA : FamN n A) (hc : c ∈ L4) : FamN n (sqz A c) := by
  have h0 := sqz_fam hA.f hc
  have hl : ∀ n : Nat, n ≤ 4 → ∀ s ∈ setsL n, ∀ c ∈ L4, lessS s c ∈ setsL n := by decide +kernel
  refine ⟨hA.h1, hA.h4, h0, fun s hs => ?_⟩
  obtain ⟨t, ht, rfl⟩ := List.mem_map.mp ((ssort_perm _).mem_iff.mp hs)
  unfold sqzF
  split
  · exact hA.m t ht
  · exact hl n hA.h4 t (hA.m t ht) c hc
section
variable {n : Nat} {x p : Addr} {A : List Str} {past : List (List Str)} {S : Sto} {Q : D → Sto → Prop} {E : Xn → Sto → Prop}
-- only: k14 k15 k17 k18 k20
theorem F_Bench_put_r {s : Str} (hA : FamN n A) (hs : s ∈ setsL n) (h : Ben S x p n A past) (hl : past.length < 40)
    (hq : ∀ S', Ben S' x p n (sset (A ++ [s])) (past ++ [A]) → Kp x p S S' → Q (.bl (!decide (A = sset (A ++ [s])))) S') : F_Bench_put [.ref x, .str s] S Q E := by
  have lA := hA.f.len
  have hB := sset_n (l := A ++ [s]) hA.h1 hA.h4 (fun t ht => by
    rcases List.mem_append.mp ht with ht | ht
    · exact hA.m t ht
    · rw [List.mem_singleton.mp ht]; exact hs)
  have lB := hB.f.len
  rw [F_Bench_put_eq]
  delta m_Bench_put
  conv => whnf
  refine ⟨x, _, rfl, h.hx, ?_⟩
  conv => whnf
  refine ⟨rfl, F_need_set_r hA.h4 hs _ _ ?_⟩
  conv => whnf
  refine ⟨x, _, rfl, h.hx, ?_⟩
  conv => whnf
  refine ⟨rfl, ?_⟩
  conv => whnf
  refine ⟨x, _, rfl, h.hx, ?_⟩
  conv => whnf
  refine ⟨sz (n := 1) (by decide), ?_⟩
  conv => whnf
  refine ⟨sz (by rw [List.length_map]; show _ + 1 ≤ _; omega), ?_⟩
  conv => whnf
  rw [show A.map D.str ++ [D.str s] = (A ++ [s]).map D.str by simp]
  refine opt_s (show strsIn (.tup ((A ++ [s]).map D.str)) = some _ from strsOf_map _) ?_
  conv => whnf
  have e : scanBound = 4096 := rfl
  refine ⟨⟨by rw [List.length_append, e]; show A.length + 1 + 1 < 4096; omega, by omega⟩, ?_⟩
  conv => whnf
  exact ⟨rfl, F_Bench_keep_r hA.f hB.f h hl hq⟩
theorem F_Bench_put_bad {d : D} (hA : FamN n A) (hd : ∃ t, tyN d = some t) (hf : goodB n d = false) (h : Ben S x p n A past) (he : E ⟨"InvalidSet", []⟩ S) : F_Bench_put [.ref x, d] S Q E := by
  rw [F_Bench_put_eq]
  delta m_Bench_put
  conv => whnf
  refine ⟨x, _, rfl, h.hx, ?_⟩
  conv => whnf
  exact ⟨rfl, F_need_set_bad hA.h4 hd hf he⟩
theorem F_Bench_strike_r {s : Str} (hA : FamN n A) (hs : s ∈ setsL n) (h : Ben S x p n A past) (hl : past.length < 40)
    (hq : ∀ S', Ben S' x p n (A.filter fun t => decide (t ≠ s)) (past ++ [A]) → Kp x p S S' → Q (.bl (!decide (A = A.filter fun t => decide (t ≠ s)))) S') : F_Bench_strike [.ref x, .str s] S Q E := by
  have lA := hA.f.len
  have hB := flt_n (fun t => decide (t ≠ s)) hA
  rw [F_Bench_strike_eq]
  delta m_Bench_strike
  conv => whnf
  refine ⟨x, _, rfl, h.hx, ?_⟩
  conv => whnf
  refine ⟨rfl, F_need_set_r hA.h4 hs _ _ ?_⟩
  conv => whnf
  refine ⟨x, _, rfl, h.hx, ?_⟩
  conv => whnf
  refine ⟨rfl, ?_⟩
  conv => whnf
  refine ⟨x, _, rfl, h.hx, ?_⟩
  conv => whnf
  refine ⟨sz (by rw [List.length_map]; omega), ?_⟩
  show lcT _ _ _ _ _ S _ _
  refine lc_n (fun d => !eqD d (.str s)) id (fun d hd => ?_) (fun d hd _ => ?_) _ _ ?_
  · obtain ⟨t, ht, rfl⟩ := List.mem_map.mp hd
    intro Q E hq
    conv => whnf
    exact ⟨.inl rfl, hq⟩
  · intro Q E hq
    conv => whnf
    exact hq
  · rw [filter_str, List.map_id]
    have ef : (A.filter fun t => !eqD (.str t) (.str s)) = A.filter fun t => decide (t ≠ s) := List.filter_congr fun t _ => by rw [eqD_str]; simp
    rw [ef]
    conv => whnf
    exact ⟨rfl, F_Bench_keep_r hA.f hB.f h hl hq⟩
theorem F_Bench_strike_bad {d : D} (hA : FamN n A) (hd : ∃ t, tyN d = some t) (hf : goodB n d = false) (h : Ben S x p n A past) (he : E ⟨"InvalidSet", []⟩ S) : F_Bench_strike [.ref x, d] S Q E := by
  rw [F_Bench_strike_eq]
  delta m_Bench_strike
  conv => whnf
  refine ⟨x, _, rfl, h.hx, ?_⟩
  conv => whnf
  exact ⟨rfl, F_need_set_bad hA.h4 hd hf he⟩
theorem L4_take : ∀ n : Nat, n ≤ 4 → ∀ c ∈ L4.take n, c ∈ L4 := by decide +kernel
theorem F_Bench_squeeze_r {c : Str} (hA : FamN n A) (hc : c ∈ L4.take n) (h : Ben S x p n A past) (hl : past.length < 40)
    (hq : ∀ S', Ben S' x p n (sqz A c) (past ++ [A]) → Kp x p S S' → Q (.bl (!decide (A = sqz A c))) S') : F_Bench_squeeze [.ref x, .str c] S Q E := by
  have hc4 := L4_take n hA.h4 c hc
  rw [F_Bench_squeeze_eq]
  delta m_Bench_squeeze
  conv => whnf
  refine ⟨x, _, rfl, h.hx, ?_⟩
  conv => whnf
  refine ⟨rfl, F_need_letter_ok hA.h4 hc _ _ ?_⟩
  conv => whnf
  refine ⟨x, _, rfl, h.hx, ?_⟩
  conv => whnf
  refine ⟨rfl, ?_⟩
  conv => whnf
  refine ⟨x, _, rfl, h.hx, ?_⟩
  conv => whnf
  refine ⟨rfl, F_squeezed_by_r hA.f hc4 _ _ ?_⟩
  conv => whnf
  exact ⟨rfl, F_Bench_keep_r hA.f (sqz_n hA hc4).f h hl hq⟩
theorem F_Bench_squeeze_bad {d : D} (hld : ∀ c, d = .str c → c.length ≤ 1000) (hd : ∃ t, tyN d = some t) (hb : letB n d = false) (h : Ben S x p n A past) (he : E ⟨"InvalidLetter", []⟩ S) : F_Bench_squeeze [.ref x, d] S Q E := by
  rw [F_Bench_squeeze_eq]
  delta m_Bench_squeeze
  conv => whnf
  refine ⟨x, _, rfl, h.hx, ?_⟩
  conv => whnf
  exact ⟨rfl, F_need_letter_bad hld hd hb he⟩
theorem okV_fam {A : List Str} (hA : IsFam A) : okV 1 1000 (dFam A) := by
  have hl := hA.len
  exact ⟨by rw [List.length_map]; omega, fun y hy => by
    obtain ⟨s, hs, rfl⟩ := List.mem_map.mp hy
    have := sets_ok (n := 4) (by decide) s (hA.1 s hs)
    exact ⟨by omega, this.2⟩⟩
theorem past_ok {l : List (List Str)} (hl : l.length ≤ 1000) (h : ∀ C ∈ l, IsFam C) : okD (.lst (l.map dFam)) = true := okV.ok (k := 2) (b := 1000) (by decide) ⟨by rw [List.length_map]; exact hl, fun x hx => by
  obtain ⟨C, hC, rfl⟩ := List.mem_map.mp hx
  exact okV_fam (h C hC)⟩
theorem F_Bench_undo_r {B : List Str} (h : Ben S x p n A (past ++ [B])) (hf : ∀ C ∈ past ++ [B], IsFam C) (hl : past.length < 64) (hq : ∀ S', Ben S' x p n B past → Kp x p S S' → Q .non S') : F_Bench_undo [.ref x] S Q E := by
  rw [F_Bench_undo_eq]
  delta m_Bench_undo
  conv => whnf
  refine ⟨x, _, rfl, h.hx, ?_⟩
  conv => whnf
  refine ⟨p, _, rfl, h.hp, ?_⟩
  conv => whnf
  have ok := past_ok (l := past ++ [B]) (by rw [List.length_append]; show past.length + 1 ≤ 1000; omega) hf
  refine ⟨ok, ?_⟩
  conv => whnf
  refine ite_f (by show eqD (.lst ((past ++ [B]).map dFam)) (.lst []) = false; rw [eqD_nil ok]; simp) ?_
  conv => whnf
  refine ⟨x, _, rfl, h.hx, ?_⟩
  conv => whnf
  refine ⟨p, _, rfl, h.hp, ?_⟩
  conv => whnf
  refine opt_s (show ((past ++ [B]).map dFam)[((past ++ [B]).map dFam).length - 1]? = some (dFam B) by simp) ?_
  conv => whnf
  refine ⟨x, _, rfl, by rw [up_ne h.ne]; exact h.hx, ?_⟩
  conv => whnf
  refine ⟨show (3 : Nat) < 1000 from by decide, ?_⟩
  conv => whnf
  have key := ben_set (A' := B) (past' := past) h
  show Q .non ((S.up p (.lst ((past ++ [B]).map dFam).dropLast)).up x (benO n B p))
  rw [show ((past ++ [B]).map dFam).dropLast = past.map dFam by simp]
  exact hq _ key.1 key.2
theorem F_Bench_undo_bad (h : Ben S x p n A []) (he : E ⟨"NothingToUndo", []⟩ S) : F_Bench_undo [.ref x] S Q E := by
  rw [F_Bench_undo_eq]
  delta m_Bench_undo
  conv => whnf
  refine ⟨x, _, rfl, h.hx, ?_⟩
  conv => whnf
  refine ⟨p, _, rfl, h.hp, ?_⟩
  conv => whnf
  refine ⟨by decide +kernel, ?_⟩
  conv => whnf
  refine ite_t (by decide +kernel) ?_
  conv => whnf
  exact he
def iaddB (n : Nat) : D → Bool
  | .tup xs => decide (xs.length ≤ 16) && xs.all (goodB n)
  | _ => false
theorem good_in : ∀ n : Nat, n ≤ 4 → ∀ s ∈ setsL n, goodB n (.str s) = true := by decide +kernel
theorem F_Bench_iadd_r {L : List Str} (hA : FamN n A) (hL : ∀ s ∈ L, s ∈ setsL n) (hlen : L.length ≤ 16) (h : Ben S x p n A past) (hl : past.length < 40)
    (hq : ∀ S', Ben S' x p n (sset (A ++ L)) (past ++ [A]) → Kp x p S S' → Q (.ref x) S') : F_Bench_iadd [.ref x, .tup (L.map D.str)] S Q E := by
  have lA := hA.f.len
  have hB := sset_n (l := A ++ L) hA.h1 hA.h4 (fun t ht => by
    rcases List.mem_append.mp ht with ht | ht
    · exact hA.m t ht
    · exact hL t ht)
  have lB := hB.f.len
  rw [F_Bench_iadd_eq]
  delta m_Bench_iadd
  conv => whnf
  refine ite_f (rfl) ?_
  conv => whnf
  refine ite_f (by show decide ((16 : Int) < ((L.map D.str).length : Nat)) = false; rw [List.length_map]; exact decide_eq_false (by omega)) ?_
  conv => whnf
  refine ⟨sz (by rw [List.length_map]; omega), ?_⟩
  show lcT _ _ _ _ _ S _ _
  refine lc_m (fun _ => .bl true) (fun d hd => ?_) _ _ ?_
  · obtain ⟨s, hs, rfl⟩ := List.mem_map.mp hd
    intro Q E hq
    conv => whnf
    refine ⟨x, _, rfl, h.hx, ?_⟩
    conv => whnf
    refine ⟨rfl, F_is_good_set_r hA.h4 ⟨_, rfl⟩ _ _ ?_⟩
    rw [good_in n hA.h4 s (hL s hs)]
    exact hq
  · have e : (L.map D.str).map (fun _ => D.bl true) = (L.map fun _ => true).map D.bl := by rw [List.map_map, List.map_map]; rfl
    rw [e]
    conv => whnf
    refine opt_s (blsOf_map _) ?_
    conv => whnf
    refine ite_f (by show (!(L.map fun _ => true).all id) = false; simp) ?_
    conv => whnf
    refine ⟨x, _, rfl, h.hx, ?_⟩
    conv => whnf
    refine ⟨rfl, ?_⟩
    conv => whnf
    refine ⟨x, _, rfl, h.hx, ?_⟩
    conv => whnf
    refine ⟨sz (by rw [List.length_map, List.length_map]; omega), ?_⟩
    conv => whnf
    rw [show A.map D.str ++ L.map D.str = (A ++ L).map D.str by simp]
    refine opt_s (show strsIn (.tup ((A ++ L).map D.str)) = some _ from strsOf_map _) ?_
    conv => whnf
    have e : scanBound = 4096 := rfl
    refine ⟨⟨by rw [List.length_append, e]; omega, by omega⟩, ?_⟩
    conv => whnf
    refine ⟨rfl, F_Bench_keep_r hA.f hB.f h hl fun S' hb hk => ?_⟩
    exact hq S' hb hk
theorem F_Bench_iadd_bad {d : D} (hA : FamN n A) (hd : ∃ t, tyN d = some t) (he1 : ∀ xs, d = .tup xs → xs.length ≤ 1000 ∧ ∀ y ∈ xs, ∃ t, tyN y = some t) (hb : iaddB n d = false) (h : Ben S x p n A past) (he : E ⟨"InvalidSet", []⟩ S) : F_Bench_iadd [.ref x, d] S Q E := by
  rw [F_Bench_iadd_eq]
  delta m_Bench_iadd
  cases d with
  | tup xs =>
    obtain ⟨l1, l2⟩ := he1 xs rfl
    conv => whnf
    refine ite_f (rfl) ?_
    conv => whnf
    by_cases h16 : xs.length ≤ 16
    · refine ite_f (by show decide ((16 : Int) < (xs.length : Nat)) = false; exact decide_eq_false (by omega)) ?_
      conv => whnf
      refine ⟨sz (by omega), ?_⟩
      show lcT _ _ _ _ _ S _ _
      refine lc_m (fun d => .bl (goodB n d)) (fun d hd => ?_) _ _ ?_
      · intro Q E hq
        conv => whnf
        refine ⟨x, _, rfl, h.hx, ?_⟩
        conv => whnf
        exact ⟨rfl, F_is_good_set_r hA.h4 (l2 d hd) _ _ hq⟩
      · have e : xs.map (fun d => D.bl (goodB n d)) = (xs.map (goodB n)).map D.bl := by rw [List.map_map]; rfl
        rw [e]
        conv => whnf
        refine opt_s (blsOf_map _) ?_
        conv => whnf
        have hb : (decide (xs.length ≤ 16) && xs.all (goodB n)) = false := hb
        rw [decide_eq_true h16, Bool.true_and] at hb
        refine ite_t (by show (!(xs.map (goodB n)).all id) = true; rw [List.all_map]; show (!xs.all (goodB n)) = true; rw [hb]; rfl) ?_
        conv => whnf
        exact he
    · refine ite_t (by show decide ((16 : Int) < (xs.length : Nat)) = true; exact decide_eq_true (by omega)) ?_
      conv => whnf
      refine ite_t (rfl) ?_
      conv => whnf
      exact he
  | str s => conv => whnf
             refine ite_t rfl ?_
             conv => whnf
             refine ite_t rfl ?_
             conv => whnf
             exact he
  | non => conv => whnf
           refine ite_t rfl ?_
           conv => whnf
           refine ite_t rfl ?_
           conv => whnf
           exact he
  | bl _ => conv => whnf
            refine ite_t rfl ?_
            conv => whnf
            refine ite_t rfl ?_
            conv => whnf
            exact he
  | int _ => conv => whnf
             refine ite_t rfl ?_
             conv => whnf
             refine ite_t rfl ?_
             conv => whnf
             exact he
  | lst _ => conv => whnf
             refine ite_t rfl ?_
             conv => whnf
             refine ite_t rfl ?_
             conv => whnf
             exact he
  | _ => obtain ⟨t, ht⟩ := hd; cases ht
end
end Em


set_option Elab.async false
set_option linter.all false
set_option maxRecDepth 100000
set_option maxHeartbeats 4000000
namespace Em
open PySem PySem.Spec PyProof.Rows L2 DL OrdS
theorem cnt_ok {A : List Str} : okD (cntD A) = true := okV.ok (k := 1) (b := 10) (by decide) ⟨show (3 : Nat) ≤ 10 from by decide, fun x hx => by
  simp only [List.mem_cons, List.not_mem_nil, or_false] at hx
  rcases hx with rfl | rfl | rfl <;> exact True.intro⟩
theorem cnt_eq {A : List Str} : eqD (cntD A) (cntD A) = true := by
  have h : toP (cntD A) = some (.tuple [.int (madeS joinS A A).length, .int (madeS metS A A).length, .int (madeS lessS A A).length]) := by
    unfold cntD
    rw [toP, toPs, toP, toPs, toP, toPs, toP, toPs]
    rfl
  rw [eqD_of h h]
  show (decide (((madeS joinS A A).length : Int) = (madeS joinS A A).length) && (decide (((madeS metS A A).length : Int) = (madeS metS A A).length) && (decide (((madeS lessS A A).length : Int) = (madeS lessS A A).length) && true))) = true
  simp
theorem line_len : ∀ s ∈ setsL 4, ∀ b : Bool, (wd s).length + (if b then (" whole" : Str) else " part").length ≤ 100 ∧ (wd s ++ (if b then " whole" else " part")).length ≤ 100 ∧ PyData.strOk (wd s ++ (if b then " whole" else " part")) = true := by decide +kernel
theorem ite_rt {α : Type} {k : Bool} {a b : T α} {v : α} {S : Sto} {Q : α → Sto → Prop} {E : Xn → Sto → Prop} (h1 : k = true → Ret a S v) (h2 : k = false → Ret b S v) (hq : Q v S) : T.ite k a b S Q E :=
  ite_i (fun h => h1 h Q E hq) (fun h => h2 h Q E hq)
theorem rows_ok {A : List Str} (hA : IsFam A) : okD (.lst ((A.map (lineS A)).map D.str)) = true := okV.ok (k := 1) (b := 100) (by decide) ⟨by have := hA.len; rw [List.length_map, List.length_map]; omega, fun x hx => by
  obtain ⟨l, hl, rfl⟩ := List.mem_map.mp hx
  obtain ⟨s, hs, rfl⟩ := List.mem_map.mp hl
  obtain ⟨_, h2, h3⟩ := line_len s (hA.1 s hs) (picksB A s)
  exact ⟨h2, h3⟩⟩
theorem wd_if (s : Str) : (if s ≠ "" then s else ("-" : Str)) = wd s := by unfold wd; by_cases h : s = "" <;> simp [h]
-- only: k14 k15
theorem F__law_bench_shows_r {n : Nat} {x p : Addr} {A : List Str} {past : List (List Str)} {S : Sto} (hA : FamN n A) (h : Ben S x p n A past) (hl : past.length < 1000) : Ret (F__law_bench_shows [.ref x, .int n, .tup (A.map D.str), .int (past.length : Nat)]) S (.bl true) := by
  intro Q E hq
  have lA := hA.f.len
  have ht := fam_ok hA.f
  rw [F__law_bench_shows_eq]
  delta m__law_bench_shows
  conv => whnf
  refine ⟨x, _, rfl, h.hx, F_Bench_letters_r h _ _ ?_⟩
  conv => whnf
  refine ⟨.inl rfl, ?_⟩
  conv => whnf
  refine ite_f (by show (!decide ((n : Int) = n)) = false; simp) ?_
  conv => whnf
  refine ⟨x, _, rfl, h.hx, F_Bench_family_r h _ _ ?_⟩
  conv => whnf
  refine ⟨.inr ⟨ht, ht⟩, ?_⟩
  conv => whnf
  refine ite_f (by show (!eqD (.tup (A.map D.str)) (.tup (A.map D.str))) = false; rw [eqD_tup]; simp) ?_
  conv => whnf
  refine ⟨x, _, rfl, h.hx, ?_⟩
  refine ⟨rfl, F_Bench_len_r h _ _ ?_⟩
  conv => whnf
  refine ⟨⟨by omega, by omega⟩, ?_⟩
  conv => whnf
  refine ⟨.inl rfl, ?_⟩
  conv => whnf
  refine ite_f (by show (!decide (((past.length : Nat) : Int) = (past.length : Nat))) = false; simp) ?_
  conv => whnf
  refine ⟨rfl, F__law_made_r hA.f hA.f (.inl rfl) _ _ ?_⟩
  rw [show wordF "joins" = joinS from rfl]
  conv => whnf
  refine ⟨rfl, F__law_made_r hA.f hA.f (.inr (.inl rfl)) _ _ ?_⟩
  rw [show wordF "meets" = metS from rfl]
  conv => whnf
  refine ⟨sz (n := 2) (by decide), ?_⟩
  conv => whnf
  refine ⟨rfl, F__law_made_r hA.f hA.f (.inr (.inr rfl)) _ _ ?_⟩
  rw [show wordF "less" = lessS from rfl]
  conv => whnf
  refine ⟨sz (n := 1) (by decide), ?_⟩
  conv => whnf
  refine ⟨sz (n := 3) (by decide), ?_⟩
  conv => whnf
  refine ⟨x, _, rfl, h.hx, F_Bench_counts_r hA.f h _ _ ?_⟩
  conv => whnf
  have e3 : [D.int (((madeS joinS A A).map D.str).length : Nat), D.int (((madeS metS A A).map D.str).length : Nat)] ++ [D.int (((madeS lessS A A).map D.str).length : Nat)] = [.int (madeS joinS A A).length, .int (madeS metS A A).length, .int (madeS lessS A A).length] := by
    rw [List.length_map, List.length_map, List.length_map]; rfl
  rw [e3]
  refine ⟨.inr ⟨cnt_ok, cnt_ok⟩, ?_⟩
  conv => whnf
  refine ite_f (by show (!eqD (cntD A) (cntD A)) = false; rw [cnt_eq]; rfl) ?_
  conv => whnf
  refine ⟨x, _, rfl, h.hx, ?_⟩
  refine ⟨rfl, F_Bench_bool_r hA.f h _ _ ?_⟩
  conv => whnf
  refine ⟨rfl, F__law_is_down_r hA.f _ _ ?_⟩
  rw [down_eq hA.f]
  conv => whnf
  refine ⟨.inl rfl, ?_⟩
  conv => whnf
  refine ite_f ((eq_bl _)) ?_
  conv => whnf
  rw [List.length_map, Int.toNat_natCast]
  refine ⟨by constructor <;> omega, ?_⟩
  conv => whnf
  refine ⟨sz (by simp; omega), ?_⟩
  show lcT _ _ _ _ _ S _ _
  refine lc_m (fun d => match d with | .int i => .str (A.getD i.toNat "") | d => d) (fun d hd => ?_) _ _ ?_
  · obtain ⟨k, hk, rfl⟩ := List.mem_map.mp hd
    have hk := List.mem_range.mp hk
    intro Q E hq
    rw [Int.zero_add] at hq ⊢
    conv => whnf
    refine ⟨x, _, rfl, h.hx, ?_⟩
    refine ⟨rfl, F_Bench_getitem_r hA.f hk h _ _ ?_⟩
    have hq : Q (.str (A.getD k "")) S := hq
    rw [show A.getD k "" = A[k] by simp [List.getD, List.getElem?_eq_getElem hk]] at hq
    exact hq
  · have e : ((List.range A.length).map fun (k : Nat) => D.int (0 + (k : Int))).map (fun d => match d with | .int i => D.str (A.getD i.toNat "") | d => d) = A.map D.str := by
      rw [List.map_map, ← range_get]
      refine List.map_congr_left fun k _ => ?_
      show D.str (A.getD (0 + (k : Int)).toNat "") = _
      rw [Int.zero_add, Int.toNat_natCast]
    rw [e]
    conv => whnf
    have hL := okD_strs lA fun s hs => hA.f.1 s hs
    refine ⟨.inr ⟨hL, hL⟩, ?_⟩
    conv => whnf
    refine ite_f (by show (!eqD (.lst (A.map D.str)) (.lst (A.map D.str))) = false; rw [eqD_lst]; simp) ?_
    conv => whnf
    refine ⟨rfl, F__law_sets_r (n := 4) (by decide) _ _ ?_⟩
    conv => whnf
    refine ⟨sz (n := 1) (by decide), ?_⟩
    conv => whnf
    refine ⟨sz (n := 4) (by decide), ?_⟩
    conv => whnf
    refine ⟨sz (n := 20) (by decide), ?_⟩
    generalize hLL : (setsL 4).map D.str ++ [D.non, D.int 0, D.str "ba", D.tup [D.str "a"]] = L
    conv => whnf
    refine for_d (l := L) (S := S) (fun g => ∃ s4 s5 s6 s7 s8 s9, g = [.va (.ref x), .va (.int n), .va (.tup (A.map D.str)), .va (.int (past.length : Nat)), s4, s5, s6, s7, s8, s9])
      (fun d hd g hg Q2 hn2 hr2 => ?_) (fun g hg => ?_) ⟨_, _, _, _, _, _, rfl⟩
    · obtain ⟨s4, s5, s6, s7, s8, s9, rfl⟩ := hg
      obtain ⟨i1, i2, i3⟩ := in_any (A := A) (d := d) (by rw [← hLL] at hd; exact hd)
      conv => whnf
      refine ⟨x, _, rfl, h.hx, ?_⟩
      refine ⟨rfl, F_Bench_contains_r i1 h _ _ ?_⟩
      have fin : Q2 (.nx [.va (.ref x), .va (.int n), .va (.tup (A.map D.str)), .va (.int (past.length : Nat)), s4, .va d, s6, s7, s8, s9]) S := hn2 _ ⟨_, _, _, _, _, _, rfl⟩
      have i4 : (!eqD (.bl (inD A d)) (.bl ((A.map D.str).any fun z => eqD z d))) = false := by rw [i3]; exact eq_bl _
      clear hd i3
      cases d <;> first
        | (obtain ⟨t, h⟩ := i1; cases h; done)
        | (conv => whnf
           refine ⟨.inr ⟨rfl, i2, hL⟩, ?_⟩
           conv => whnf
           refine ⟨.inl rfl, ?_⟩
           conv => whnf
           refine ite_f i4 ?_
           conv => whnf
           exact fin)
    · obtain ⟨s4, s5, s6, s7, s8, s9, rfl⟩ := hg
      conv => whnf
      refine ⟨sz (n := 0) (by decide), ?_⟩
      conv => whnf
      refine for_l D.str (fun r g S' => S = S' ∧ ∃ A1 s5 s7 s8 s9, A = A1 ++ r ∧ g = [.va (.ref x), .va (.int n), .va (.tup (A.map D.str)), .va (.int (past.length : Nat)), s4, s5, .ow ((A1.map (lineS A)).map D.str), s7, s8, s9])
        (fun s r g S' hI Q2 hn2 hr2 => ?_) (fun g S' hI => ?_) _ _ _ ⟨rfl, [], _, _, _, _, rfl, rfl⟩
      · obtain ⟨rfl, A1, s5, s7, s8, s9, hAA, rfl⟩ := hI
        have hs : s ∈ A := by rw [hAA]; simp
        have hs4 := hA.f.1 s hs
        have l1 : A1.length ≤ 16 := by have := congrArg List.length hAA; rw [List.length_append] at this; omega
        have fin : ∀ s8', Q2 (.nx [.va (.ref x), .va (.int n), .va (.tup (A.map D.str)), .va (.int (past.length : Nat)), s4, s5, .ow ((A1.map (lineS A)).map D.str ++ [.str (wd s ++ (if picksB A s then " whole" else " part"))]), .va (.str s), s8', s9]) S := fun s8' =>
          hn2 _ _ ⟨rfl, A1 ++ [s], s5, .va (.str s), s8', s9, by rw [hAA]; simp, by simp [lineS]⟩
        obtain ⟨l2, _⟩ := line_len s hs4 (picksB A s)
        conv => whnf
        refine ⟨rfl, F__law_picks_r hA.f hs4 _ _ ?_⟩
        generalize picksB A s = b at fin l2
        have wdw : ∀ {a b : T D} {Q' : D → Sto → Prop} {E' : Xn → Sto → Prop}, Ret a S (.str s) → Ret b S (.str "-") → Q' (.str (wd s)) S → T.ite (!eqD (.str s) (.str "")) a b S Q' E' := fun {a b Q' E'} ha hb hq => by
          refine ite_rt (v := .str (wd s)) (fun h => ?_) (fun h => ?_) hq
          · rw [eqD_str] at h
            have h : ¬ s = "" := by simpa using h
            rw [show wd s = s from if_neg h]; exact ha
          · rw [eqD_str] at h
            have h : s = "" := by simpa using h
            rw [show wd s = "-" from if_pos h]; exact hb
        cases b
        · conv => whnf
          refine ite_f (rfl) ?_
          conv => whnf
          refine ⟨.inl rfl, ?_⟩
          conv => whnf
          refine wdw (fun Q E h => ?_) (fun Q E h => ?_) ?_
          · conv => whnf
            exact h
          · conv => whnf
            exact h
          · conv => whnf
            refine ⟨sz (Nat.le_trans l2 (by decide)), ?_⟩
            conv => whnf
            refine ⟨sz (by rw [List.length_map, List.length_map]; show _ + 1 ≤ _; omega), ?_⟩
            conv => whnf
            exact fin _
        · conv => whnf
          refine ite_t (rfl) ?_
          conv => whnf
          refine ⟨.inl rfl, ?_⟩
          conv => whnf
          refine wdw (fun Q E h => ?_) (fun Q E h => ?_) ?_
          · conv => whnf
            exact h
          · conv => whnf
            exact h
          · conv => whnf
            refine ⟨sz (Nat.le_trans l2 (by decide)), ?_⟩
            conv => whnf
            refine ⟨sz (by rw [List.length_map, List.length_map]; show _ + 1 ≤ _; omega), ?_⟩
            conv => whnf
            exact fin _
      · obtain ⟨rfl, A1, s5, s7, s8, s9, hAA, rfl⟩ := hI
        rw [List.append_nil] at hAA
        subst hAA
        conv => whnf
        refine ⟨x, _, rfl, h.hx, ?_⟩
        conv => whnf
        refine ⟨⟨rfl, rfl⟩, ?_⟩
        refine F_Bench_lines_r hA.f h _ _ ?_
        conv => whnf
        have ok := rows_ok hA.f
        refine ⟨.inr ⟨ok, ok⟩, ?_⟩
        conv => whnf
        show Q (.bl (eqD (.lst ((A.map (lineS A)).map D.str)) (.lst ((A.map (lineS A)).map D.str)))) S
        rw [eqD_lst, decide_eq_true rfl]
        exact hq
end Em


set_option Elab.async false
set_option linter.all false
set_option maxRecDepth 100000
set_option maxHeartbeats 4000000
namespace Em
open PySem PySem.Spec PyProof.Rows L2 DL OrdS
/-! ### the tables of the code objects -/
-- only: k15
structure TabW (T : Addr → Option (Str × List Addr)) (S : Sto) : Prop where
  at' : ∀ P q L, T P = some (q, L) → S P = some (.own (tabM q L))
  cl : ∀ P q L, T P = some (q, L) → ∀ P' ∈ L, ∃ L', T P' = some (inQ q, L')
-- only: k15
def Tw (Ps : List (Addr × Str)) (S : Sto) : Prop := ∃ T, TabW T S ∧ ∀ z ∈ Ps, ∃ L, T z.1 = some (z.2, L)
-- only: k15
theorem Tw.mono {Ps Ps' : List (Addr × Str)} {S : Sto} (h : Tw Ps S) (hs : ∀ z ∈ Ps', z ∈ Ps) : Tw Ps' S := by
  obtain ⟨T, w, z⟩ := h
  exact ⟨T, w, fun y hy => z y (hs y hy)⟩
-- only: k15
theorem Tw.ext {Ps : List (Addr × Str)} {S S' : Sto} (h : Tw Ps S) (k : ∀ a M, S a = some (.own M) → S' a = some (.own M)) : Tw Ps S' := by
  obtain ⟨T, w, z⟩ := h
  exact ⟨T, ⟨fun P q L e => k P _ (w.at' P q L e), w.cl⟩, z⟩
/-- all but the tables, x and p stays -/
-- only: k15
def Ko (x p : Addr) (S S' : Sto) : Prop := ∀ a m, a ≠ x → a ≠ p → S a = some m → (∀ M, m ≠ .own M) → S' a = some m
-- only: k15
theorem Ko.trans {x p : Addr} {S S1 S2 : Sto} (h1 : Ko x p S S1) (h2 : Ko x p S1 S2) : Ko x p S S2 := fun a m n1 n2 e hm => h2 a m n1 n2 (h1 a m n1 n2 e hm) hm
-- only: k15
theorem Kp.ko {x p : Addr} {S S' : Sto} (h : Kp x p S S') : Ko x p S S' := fun a m n1 n2 e _ => h.oth a m n1 n2 e
-- only: k15
theorem Kp.tw {Ps : List (Addr × Str)} {n : Nat} {A : List Str} {past : List (List Str)} {x p : Addr} {S S' : Sto} (h : Kp x p S S') (hb : Ben S x p n A past) (tw : Tw Ps S) : Tw Ps S' := tw.ext fun a M e => h.oth a _ (fun z => by
  rw [z, hb.hx] at e; unfold benO at e; cases e) (fun z => by rw [z, hb.hp] at e; unfold pastO at e; cases e) e
-- only: k15
theorem Keep.tw {Ps : List (Addr × Str)} {S S' : Sto} (h : Keep S S') (tw : Tw Ps S) : Tw Ps S' := tw.ext fun a M e => h a _ e
-- only: k15
theorem ben_own {n : Nat} {A : List Str} {p : Addr} : ∀ M, benO n A p ≠ .own M := fun M => by unfold benO; exact fun z => nomatch z
-- only: k15
theorem past_own {past : List (List Str)} : ∀ M, pastO past ≠ .own M := fun M => by unfold pastO; exact fun z => nomatch z
-- only: k15
def Kq (S S' : Sto) : Prop := ∀ a m, S a = some m → (∀ M, m ≠ .own M) → S' a = some m
-- only: k15
theorem Ben.kq {S S' : Sto} {x p : Addr} {n : Nat} {A : List Str} {past : List (List Str)} (h : Ben S x p n A past) (k : Kq S S') : Ben S' x p n A past := ⟨k _ _ h.hx ben_own, k _ _ h.hp past_own⟩
-- only: k15
theorem Kq.ko {x p : Addr} {S S' : Sto} (h : Kq S S') : Ko x p S S' := fun a m _ _ e hm => h a m e hm
-- only: k15
theorem lam_tw {α : Type} {P : Addr} {q : Str} {Ps : List (Addr × Str)} {m : Addr → T α} {S : Sto} {Q : α → Sto → Prop} {E : Xn → Sto → Prop} (h : Tw Ps S) (hP : (P, q) ∈ Ps)
    (hm : ∀ P' S', Tw ((P', inQ q) :: Ps) S' → Kq S S' → m P' S' Q E) : lamDT P q m S Q E := by
  obtain ⟨T, w, z⟩ := h
  obtain ⟨L, hL⟩ := z _ hP
  have hL : T P = some (q, L) := hL
  have hS := w.at' _ _ _ hL
  refine ⟨L, hS, fun P' hP' => ?_, fun P' hP' => ?_⟩
  · obtain ⟨L', e⟩ := w.cl _ _ _ hL P' hP'
    refine hm P' S ⟨T, w, fun y hy => ?_⟩ fun _ _ h _ => h
    rcases List.mem_cons.mp hy with rfl | hy
    · exact ⟨L', e⟩
    · exact z y hy
  · have hT : T P' = none := by
      cases e : T P' with
      | none => rfl
      | some v => have := w.at' P' v.1 v.2 e; rw [hP'] at this; cases this
    have ne : P ≠ P' := fun e => by rw [e, hT] at hL; cases hL
    have key : ∀ a v, T a = some v → a ≠ P' := fun a v e1 e2 => by rw [e2, hT] at e1; cases e1
    refine hm P' _ ⟨fun a => if a = P' then some (inQ q, []) else if a = P then some (q, P' :: L) else T a, ⟨fun a q' L' e => ?_, fun a q' L' e b hb => ?_⟩, fun y hy => ?_⟩ fun a mm e hmm => ?_
    · by_cases h1 : a = P'
      · subst h1
        have e : (if a = a then some (inQ q, []) else if a = P then some (q, a :: L) else T a) = some (q', L') := e
        rw [if_pos rfl] at e
        cases e
        exact up_same
      · have e : (if a = P' then some (inQ q, []) else if a = P then some (q, P' :: L) else T a) = some (q', L') := e
        rw [if_neg h1] at e
        unfold tabUp
        rw [up_ne h1]
        by_cases h2 : a = P
        · subst h2
          rw [if_pos rfl] at e
          cases e
          exact up_same
        · rw [if_neg h2] at e
          rw [up_ne h2]
          exact w.at' _ _ _ e
    · have e : (if a = P' then some (inQ q, []) else if a = P then some (q, P' :: L) else T a) = some (q', L') := e
      have out : ∀ L0, T a = some (q', L0) → b ∈ L0 → ∃ L', (if b = P' then some (inQ q, []) else if b = P then some (q, P' :: L) else T b) = some (inQ q', L') := fun L0 e0 hb0 => by
        obtain ⟨L2, e2⟩ := w.cl _ _ _ e0 b hb0
        rw [if_neg (key _ _ e2)]
        by_cases h3 : b = P
        · subst h3
          rw [hL] at e2
          have e3 : q = inQ q' := (Prod.mk.inj (Option.some.inj e2)).1
          rw [if_pos rfl, ← e3]
          exact ⟨_, rfl⟩
        · rw [if_neg h3]; exact ⟨L2, e2⟩
      by_cases h1 : a = P'
      · rw [if_pos h1] at e
        cases e
        exact absurd hb List.not_mem_nil
      · rw [if_neg h1] at e
        by_cases h2 : a = P
        · rw [if_pos h2] at e
          cases e
          rcases List.mem_cons.mp hb with rfl | hb
          · exact ⟨[], if_pos rfl⟩
          · exact out L (by rw [h2]; exact hL) hb
        · rw [if_neg h2] at e
          exact out L' e hb
    · rcases List.mem_cons.mp hy with rfl | hy
      · exact ⟨[], if_pos rfl⟩
      · obtain ⟨L2, e2⟩ := z y hy
        show ∃ L', (if y.1 = P' then some (inQ q, []) else if y.1 = P then some (q, P' :: L) else T y.1) = some (y.2, L')
        rw [if_neg (key _ _ e2)]
        by_cases h3 : y.1 = P
        · rw [h3, hL] at e2
          have e3 : q = y.2 := (Prod.mk.inj (Option.some.inj e2)).1
          rw [if_pos h3, ← e3]
          exact ⟨_, rfl⟩
        · rw [if_neg h3]; exact ⟨L2, e2⟩
    · unfold tabUp
      rw [up_ne (fun h => by rw [h, hP'] at e; cases e), up_ne (fun h => by rw [h, hS] at e; exact hmm _ (Option.some.inj e).symm)]
      exact e
-- only: k15
theorem up_back {S : Sto} {x : Addr} {m m' : MO} (h : S x = some m) : (S.up x m').up x m = S := by
  funext a
  unfold Sto.up
  by_cases e : a = x
  · rw [if_pos e, e, h]
  · rw [if_neg e, if_neg e]
-- only: k15
theorem up_over {S : Sto} {x : Addr} {m m' : MO} : (S.up x m').up x m = S.up x m := by
  funext a
  unfold Sto.up
  by_cases e : a = x
  · rw [if_pos e, if_pos e]
  · rw [if_neg e, if_neg e, if_neg e]
/-! ### attempt -/
theorem F_Bench_attempt_r {n : Nat} {x p : Addr} {A : List Str} {past : List (List Str)} {S : Sto} {act : D → T D} {Q : D → Sto → Prop} {E : Xn → Sto → Prop} (h : Ben S x p n A past) (hl : past.length ≤ 100)
    (hact : ∀ pc, S pc = none → ∀ (Q1 : D → Sto → Prop) (E1 : Xn → Sto → Prop), (∀ r S2 A2 p2, S2 x = some (benO n A2 p2) → Q r S2 → Q1 r S2) → (∀ e S2 A2 p2, S2 x = some (benO n A2 p2) → e.fs = [] → E e (S2.up x (benO n A pc)) → E1 e S2) → act (.ref x) (S.up pc (pastO past)) Q1 E1) : F_Bench_attempt act (.ref x) S Q E := by
  rw [F_Bench_attempt_eq]
  intro f
  show runD (m_Bench_attempt f act) 5 [.ref x, .ref f] S Q E
  delta m_Bench_attempt
  conv => whnf
  refine ⟨x, _, rfl, h.hx, ?_⟩
  conv => whnf
  refine ⟨x, _, rfl, h.hx, ?_⟩
  conv => whnf
  refine ⟨p, _, rfl, h.hp, ?_⟩
  conv => whnf
  intro pc hpc
  conv => whnf
  refine ⟨.ref x, rfl, rfl, hact pc hpc _ _ (fun r S2 A2 p2 hx hq => ?_) fun e S2 A2 p2 hx he hE => ?_⟩
  · conv => whnf
    refine ⟨x, _, rfl, hx, ?_⟩
    conv => whnf
    refine ⟨x, _, rfl, hx, ?_⟩
    conv => whnf
    refine ⟨_, rfl, ?_⟩
    conv => whnf
    refine ⟨x, _, rfl, hx, ?_⟩
    conv => whnf
    refine ⟨show (3 : Nat) < 1000 from by decide, ?_⟩
    conv => whnf
    refine ⟨x, _, rfl, up_same, ?_⟩
    conv => whnf
    refine ⟨show (3 : Nat) < 1000 from by decide, ?_⟩
    conv => whnf
    show Q r ((S2.up x _).up x (benO n A2 p2))
    rw [up_back hx]
    exact hq
  · conv => whnf
    refine ⟨x, _, rfl, hx, ?_⟩
    conv => whnf
    refine ⟨show (3 : Nat) < 1000 from by decide, ?_⟩
    conv => whnf
    refine ⟨x, _, rfl, up_same, ?_⟩
    conv => whnf
    refine ⟨show (3 : Nat) < 1000 from by decide, ?_⟩
    conv => whnf
    refine ⟨_, rfl, he, ?_⟩
    show E e ((S2.up x _).up x (benO n A pc))
    rw [up_over]
    exact hE
end Em


set_option Elab.async false
set_option linter.all false
set_option maxRecDepth 100000
set_option maxHeartbeats 4000000
namespace Em
open PySem PySem.Spec PyProof.Rows L2 DL OrdS
/-! ### what the law's functions do to a bench -/
section
variable {n : Nat} {x p : Addr} {A : List Str} {past : List (List Str)} {S : Sto} {Q : D → Sto → Prop} {E : Xn → Sto → Prop}
-- only: k15
theorem in_a : ∀ n : Nat, 1 ≤ n → n ≤ 4 → ("a" : Str) ∈ setsL n := by
  intro n h1 h4
  have key : ∀ n : Nat, n ≤ 4 → 1 ≤ n → ("a" : Str) ∈ setsL n := by decide +kernel
  exact key n h4 h1
-- only: k15
theorem F__law_deeds_r {L : List Str} (hA : FamN n A) (hF : ∀ B ∈ past, FamN n B) (hL : ∀ s ∈ L, s ∈ setsL n) (hlen : L.length ≤ 16) (h : Ben S x p n A past) (hl : past.length ≤ 20)
    (hq : ∀ S', Ben S' x p n (sset (A ++ L)) (past ++ [A] ++ [sset (A ++ L)]) → Kp x p S S' → Q (.int ((past.length + 2 : Nat) : Int)) S') : F__law_deeds [.ref x, .tup (L.map D.str)] S Q E := by
  have hB := sset_n (l := A ++ L) hA.h1 hA.h4 (fun t ht => by
    rcases List.mem_append.mp ht with ht | ht
    · exact hA.m t ht
    · exact hL t ht)
  have eB : sset (sset (A ++ L) ++ []) = sset (A ++ L) := by rw [List.append_nil]; exact sset_self hB.f.2
  rw [F__law_deeds_eq]
  delta m__law_deeds
  conv => whnf
  refine ⟨x, _, rfl, h.hx, ?_⟩
  conv => whnf
  refine ⟨rfl, F_Bench_iadd_r hA hL hlen h (by omega) fun S1 h1 k1 => ?_⟩
  generalize hBB : sset (A ++ L) = B at hB eB h1 hq
  conv => whnf
  refine ⟨sz (n := 0) (by decide), ?_⟩
  conv => whnf
  refine ⟨x, _, rfl, h1.hx, ?_⟩
  conv => whnf
  refine ⟨rfl, F_Bench_iadd_r (L := []) hB (fun _ h => absurd h List.not_mem_nil) (by decide) h1 (by rw [List.length_append]; show past.length + 1 < 40; omega) fun S2 h2 k2 => ?_⟩
  rw [eB] at h2
  conv => whnf
  refine ⟨x, _, rfl, h2.hx, ?_⟩
  conv => whnf
  refine ⟨rfl, ?_⟩
  conv => whnf
  refine ⟨rfl, F_Bench_strike_r hB (in_a n hA.h1 hA.h4) h2 (by rw [List.length_append, List.length_append]; show past.length + 1 + 1 < 40; omega) fun S3 h3 k3 => ?_⟩
  conv => whnf
  refine ⟨x, _, rfl, h3.hx, ?_⟩
  conv => whnf
  refine ⟨rfl, rfl, F_Bench_undo_r (past := past ++ [A] ++ [B]) (B := B) h3 (fun C hC => ?_) (by rw [List.length_append, List.length_append]; show past.length + 1 + 1 < 64; omega) fun S4 h4 k4 => ?_⟩
  · rcases List.mem_append.mp hC with hC | hC
    · rcases List.mem_append.mp hC with hC | hC
      · rcases List.mem_append.mp hC with hC | hC
        · exact (hF C hC).f
        · rw [List.mem_singleton.mp hC]; exact hA.f
      · rw [List.mem_singleton.mp hC]; exact hB.f
    · rw [List.mem_singleton.mp hC]; exact hB.f
  · conv => whnf
    refine ⟨x, _, rfl, h4.hx, ?_⟩
    refine ⟨rfl, F_Bench_len_r h4 _ _ ?_⟩
    have el : (past ++ [A] ++ [B]).length = past.length + 2 := by simp
    rw [el]
    conv => whnf
    refine ⟨⟨by omega, by omega⟩, ?_⟩
    conv => whnf
    exact hq S4 h4 (((k1.trans k2).trans k3).trans k4)
-- only: k15
def qF : Str := "_law_fails.<locals>.<lambda>"
-- only: k15
def qT : Str := "_law_tried.<locals>.<lambda>"
-- only: k15
theorem n99 (k : Nat) (h : k ≤ 16) : numB 0 ((k : Int) - 1) (.int 99) = false := by
  unfold numB
  have : ¬ ((99 : Int) ≤ (k : Int) - 1) := by omega
  simp [this]
theorem F__law_fails_r {P : Addr} {Ps : List (Addr × Str)} {L : List Str} {b : Bool} (tw : Tw Ps S) (hP : (P, qF) ∈ Ps) (hA : FamN n A) (hF : ∀ B ∈ past, FamN n B) (hL : ∀ s ∈ L, s ∈ setsL n) (hlen : L.length ≤ 16) (h : Ben S x p n A past) (hl : past.length ≤ 20)
    (he : ∀ S' A' p', S' x = some (benO n A' p') → Tw Ps S' → Ko x p S S' → E ⟨"InvalidNumber", []⟩ S') : F__law_fails P [.ref x, .tup (L.map D.str), .bl b] S Q E := by
  have hB := sset_n (l := A ++ L) hA.h1 hA.h4 (fun t ht => by
    rcases List.mem_append.mp ht with ht | ht
    · exact hA.m t ht
    · exact hL t ht)
  have lB := hB.f.len
  rw [F__law_fails_eq]
  show runD (m__law_fails P) 3 _ S Q E
  delta m__law_fails
  cases b
  · conv => whnf
    refine ite_f rfl ?_
    conv => whnf
    refine ⟨x, _, rfl, h.hx, ?_⟩
    conv => whnf
    refine ⟨rfl, F_Bench_iadd_r hA hL hlen h (by omega) fun S1 h1 k1 => ?_⟩
    conv => whnf
    refine ⟨x, _, rfl, h1.hx, ?_⟩
    refine ⟨rfl, F_Bench_getitem_bad hB.f ⟨_, rfl⟩ (n99 _ lB) h1 ?_⟩
    exact he S1 _ _ h1.hx (k1.tw h tw) k1.ko
  · conv => whnf
    refine ite_t rfl ?_
    conv => whnf
    refine ⟨x, _, rfl, h.hx, ?_⟩
    conv => whnf
    refine ⟨rfl, ?_⟩
    conv => whnf
    refine lam_tw tw hP fun P' S1 tw1 k1 => ?_
    have tw1 := tw1.mono (Ps' := Ps) fun z hz => List.mem_cons_of_mem _ hz
    have h1 := h.kq k1
    refine F_Bench_attempt_r h1 (by omega) fun pc hpc Q1 E1 hQ hE => ?_
    have k2 := keep_up hpc (m := pastO past)
    have h2 : Ben (S1.up pc (pastO past)) x p n A past := ⟨k2 _ _ h1.hx, k2 _ _ h1.hp⟩
    conv => whnf
    refine ⟨rfl, F__law_deeds_r hA hF hL hlen h2 (by omega) fun S2 h3 k3 => ?_⟩
    refine hQ _ _ _ _ h3.hx ?_
    conv => whnf
    refine ⟨x, _, rfl, h3.hx, ?_⟩
    refine ⟨rfl, F_Bench_getitem_bad hB.f ⟨_, rfl⟩ (n99 _ lB) h3 ?_⟩
    exact he S2 _ _ h3.hx (k3.tw h2 (Keep.tw k2 tw1)) (k1.ko.trans ((Keep.kp (x := x) (p := p) k2).ko.trans k3.ko))
theorem F__law_tried_r {P1 P2 : Addr} {Ps : List (Addr × Str)} {L : List Str} {b : Bool} (tw : Tw Ps S) (hP1 : (P1, qF) ∈ Ps) (hP2 : (P2, qT) ∈ Ps) (hA : FamN n A) (hF : ∀ B ∈ past, FamN n B) (hL : ∀ s ∈ L, s ∈ setsL n) (hlen : L.length ≤ 16) (h : Ben S x p n A past) (hl : past.length ≤ 20)
    (he : ∀ S' pc, Ben S' x pc n A past → Tw Ps S' → Ko x p S S' → E ⟨"InvalidNumber", []⟩ S') : F__law_tried P1 P2 [.ref x, .tup (L.map D.str), .bl b] S Q E := by
  rw [F__law_tried_eq]
  show runD (m__law_tried P1 P2) 3 _ S Q E
  delta m__law_tried
  conv => whnf
  refine ⟨x, _, rfl, h.hx, ?_⟩
  conv => whnf
  refine ⟨rfl, ?_⟩
  conv => whnf
  refine lam_tw tw hP2 fun P' S1 tw1 k1 => ?_
  have tw1 := tw1.mono (Ps' := Ps) fun z hz => List.mem_cons_of_mem _ hz
  have h1 := h.kq k1
  refine F_Bench_attempt_r h1 (by omega) fun pc hpc Q1 E1 hQ hE => ?_
  have k2 := keep_up hpc (m := pastO past)
  have h2 : Ben (S1.up pc (pastO past)) x p n A past := ⟨k2 _ _ h1.hx, k2 _ _ h1.hp⟩
  have nx : pc ≠ x := fun e => by rw [e, h1.hx] at hpc; cases hpc
  have np : pc ≠ p := fun e => by rw [e, h1.hp] at hpc; cases hpc
  conv => whnf
  refine ⟨rfl, F__law_fails_r (Keep.tw k2 tw1) hP1 hA hF hL hlen h2 (by omega) fun S2 A' p' hx tw2 k3 => ?_⟩
  have hc : S2 pc = some (pastO past) := k3 _ _ nx np up_same past_own
  refine hE _ _ _ _ hx rfl (he _ pc ⟨up_same, by rw [up_ne nx]; exact hc⟩ (tw2.ext fun a M e => ?_) fun a m n1 n2 e hm => ?_)
  · rw [up_ne (fun z => by rw [z, hx] at e; exact ben_own M (Option.some.inj e))]; exact e
  · rw [up_ne n1]
    exact k3 a m n1 n2 (k2 a m (k1 a m e hm)) hm
end
end Em


set_option Elab.async false
set_option linter.all false
set_option maxRecDepth 100000
set_option maxHeartbeats 4000000
namespace Em
open PySem PySem.Spec PyProof.Rows L2 DL OrdS
-- only: k15
theorem lc_eachA {i : Nat} {e : ME} {g : Sg} {S : Sto} {P : D → Prop} : ∀ {ds : List D}, (∀ d ∈ ds, Rets (e (g.set i (.va d))) S P) → Rets (lcT (gN i) tY e g ds) S fun xs => xs.length = ds.length ∧ ∀ x ∈ xs, P x
  | [], _ => fun Q E h => h [] ⟨rfl, fun _ h => absurd h List.not_mem_nil⟩
  | d :: r, h1 => fun Q E h => by
    have ih := lc_eachA (i := i) (e := e) (g := g) (S := S) (P := P) (ds := r) fun d hd => h1 d (List.mem_cons_of_mem _ hd)
    refine T.iteT_ (h1 d List.mem_cons_self _ _ fun x hx => ih _ _ fun xs hxs => h (x :: xs) ⟨by rw [List.length_cons, List.length_cons, hxs.1], fun y hy => ?_⟩)
    rcases List.mem_cons.mp hy with rfl | hy
    · exact hx
    · exact hxs.2 y hy
-- only: k15
theorem strs_ofA {n : Nat} : ∀ {xs : List D}, (∀ x ∈ xs, x ∈ (setsL n).map D.str) → ∃ L : List Str, xs = L.map D.str ∧ ∀ s ∈ L, s ∈ setsL n
  | [], _ => ⟨[], rfl, fun _ h => absurd h List.not_mem_nil⟩
  | x :: xs, h => by
    obtain ⟨s, hs, rfl⟩ := List.mem_map.mp (h x List.mem_cons_self)
    obtain ⟨L, rfl, hL⟩ := strs_ofA fun y hy => h y (List.mem_cons_of_mem _ hy)
    refine ⟨s :: L, rfl, fun t ht => ?_⟩
    rcases List.mem_cons.mp ht with rfl | ht
    · exact hs
    · exact hL t ht
-- only: k15
theorem sets_posA : ∀ n : Nat, n ≤ 4 → 0 < (setsL n).length := by decide +kernel
-- only: k15
def qLa : Str := "law.<locals>.<lambda>"
-- only: k15
theorem e_bad : ∀ n : Nat, n ≤ 4 → goodB n (.str "e") = false ∧ letB n (.str "e") = false := by decide +kernel
-- only: k15
theorem eq_num : eqD (.str "number") (.str "number") = true := by decide +kernel
/-- after a failed attempt: as it was, the list a copy -/
-- only: k15
theorem ben_back {n : Nat} {x pc p' : Addr} {A' A : List Str} {past : List (List Str)} {S : Sto} {Ps : List (Addr × Str)} (h : S x = some (benO n A' p')) (tw : Tw Ps S) (hc : S pc = some (pastO past)) (nx : pc ≠ x) : Ben (S.up x (benO n A pc)) x pc n A past ∧ Tw Ps (S.up x (benO n A pc)) := by
  refine ⟨⟨up_same, by rw [up_ne nx]; exact hc⟩, tw.ext fun a M e => ?_⟩
  rw [up_ne (fun z => by rw [z, h] at e; exact ben_own M (Option.some.inj e))]; exact e
/-- an action that fails at once -/
-- only: k15
theorem att_fails {n : Nat} {x p : Addr} {A : List Str} {past : List (List Str)} {S : Sto} {Ps : List (Addr × Str)} {act : D → T D} {Q : D → Sto → Prop} {E : Xn → Sto → Prop} {c : Str} (tw : Tw Ps S) (h : Ben S x p n A past) (hl : past.length ≤ 100)
    (hact : ∀ (S' : Sto) (p' : Addr), Ben S' x p' n A past → ∀ (Q1 : D → Sto → Prop) (E1 : Xn → Sto → Prop), E1 ⟨c, []⟩ S' → act (.ref x) S' Q1 E1)
    (he : ∀ S' pc, Ben S' x pc n A past → Tw Ps S' → E ⟨c, []⟩ S') : F_Bench_attempt act (.ref x) S Q E := by
  refine F_Bench_attempt_r h hl fun pc hpc Q1 E1 hQ hE => ?_
  have k2 := keep_up hpc (m := pastO past)
  have h2 : Ben (S.up pc (pastO past)) x p n A past := ⟨k2 _ _ h.hx, k2 _ _ h.hp⟩
  have nx : pc ≠ x := fun e => by rw [e, h.hx] at hpc; cases hpc
  refine hact _ _ h2 _ _ (hE _ _ _ _ h2.hx rfl ?_)
  obtain ⟨h3, tw3⟩ := ben_back (A := A) (pc := pc) (past := past) h2.hx (Keep.tw k2 tw) up_same nx
  exact he _ _ h3 tw3
-- only: k15
theorem k15_data {P1 P2 P3 : Addr} {S : Sto} {ns : List Int} (tw : Tw [(P1, qF), (P2, qT), (P3, qLa)] S) (hl : ns.length ≤ 63) (hb : ∀ z ∈ ns, Builtin.Int.intBits z ≤ 1048576) : F_law P1 P2 P3 [.frz (ns.map D.int)] S (fun d _ => d = .bl true) fun _ _ => False := by
  have m1 : (P1, qF) ∈ [(P1, qF), (P2, qT), (P3, qLa)] := List.mem_cons_self
  have m2 : (P2, qT) ∈ [(P1, qF), (P2, qT), (P3, qLa)] := List.mem_cons_of_mem _ List.mem_cons_self
  have m3 : (P3, qLa) ∈ [(P1, qF), (P2, qT), (P3, qLa)] := List.mem_cons_of_mem _ (List.mem_cons_of_mem _ List.mem_cons_self)
  generalize [(P1, qF), (P2, qT), (P3, qLa)] = Ps at tw m1 m2 m3
  rw [F_law_eq]
  show runD (m_law P1 P2 P3) 12 [.frz (ns.map D.int)] S _ _
  delta m_law
  conv => whnf
  have hn : (if (8 : Int) < ((ns.map D.int).length : Int) then (8 : Int) else ((ns.map D.int).length : Int)) ≤ 8 ∧ 0 ≤ (if (8 : Int) < ((ns.map D.int).length : Int) then (8 : Int) else ((ns.map D.int).length : Int)) := by split <;> omega
  refine ⟨by omega, ?_⟩
  refine for_l (fun k : Nat => D.int (0 + (k : Int))) (fun r g S' => (∀ k ∈ r, k ≤ 9) ∧ Tw Ps S' ∧ ∃ s1 s2 s3 s4 s5 s6 s7 s8 s9 s10 s11, g = [.va (.frz (ns.map D.int)), s1, s2, s3, s4, s5, s6, s7, s8, s9, s10, s11])
    (fun k r g S' hI Q' hn' hr => ?_) (fun g S' hI => ?_) _ _ _ ⟨fun k hk => ?_, tw, _, _, _, _, _, _, _, _, _, _, _, rfl⟩
  · obtain ⟨hk, tw, s1, s2, s3, s4, s5, s6, s7, s8, s9, s10, s11, rfl⟩ := hI
    have hk1 := hk k List.mem_cons_self
    rw [Int.zero_add]
    conv => whnf
    refine ⟨rfl, F__law_source_r hb (by omega) hl fun a ha => ?_⟩
    have kz := keep_up ha (m := .src)
    have tw := Keep.tw kz tw
    have hs : (S'.up a .src) a = some .src := up_same
    generalize S'.up a .src = S1 at tw hs
    clear kz ha
    conv => whnf
    refine ⟨rfl, F__law_draw_r hs (by decide) (by decide) _ _ fun d hd => ?_⟩
    obtain ⟨m, rfl, m0, m1'⟩ := hd
    obtain ⟨m, rfl⟩ : ∃ i : Nat, m = i := ⟨m.toNat, by omega⟩
    conv => whnf
    rw [show (1 : Int) + (m : Int) = ((1 + m : Nat) : Int) by omega]
    have hm4 : 1 + m ≤ 4 := by omega
    have hm1 : 1 ≤ 1 + m := by omega
    generalize 1 + m = n at hm4 hm1
    refine ⟨rfl, F__law_draw_r hs (by decide) (by decide) _ _ fun d hd => ?_⟩
    obtain ⟨j, rfl, j0, j1⟩ := hd
    obtain ⟨j, rfl⟩ : ∃ i : Nat, j = i := ⟨j.toNat, by omega⟩
    conv => whnf
    rw [show (1 : Int) + (j : Int) = ((1 + j : Nat) : Int) by omega]
    have hj4 : 1 + j ≤ 4 := by omega
    generalize 1 + j = j at hj4
    refine ⟨rfl, F__law_sets_r hm4 _ _ ?_⟩
    conv => whnf
    refine ⟨sz (n := 2) (by decide), ?_⟩
    conv => whnf
    refine ⟨by constructor <;> omega, ?_⟩
    conv => whnf
    rw [Int.toNat_natCast]
    refine ⟨sz (by simp; omega), ?_⟩
    show lcT _ _ _ _ _ S1 _ _
    have ls := sets_len hm4
    refine lc_eachA (P := fun d => d ∈ (setsL n).map D.str) (fun d hd Q E hq => ?_) _ _ fun xs hxs => ?_
    · conv => whnf
      exact ⟨rfl, F__law_of_r (ds := (setsL n).map D.str) hs (by rw [List.length_map]; exact sets_posA n hm4) (by rw [List.length_map]; omega) _ _ fun d hd => hq d hd⟩
    obtain ⟨hlen, hmem⟩ := hxs
    obtain ⟨L, rfl, hL⟩ := strs_ofA hmem
    have hL4 : L.length ≤ 16 := by simp at hlen; omega
    have hB := sset_n (l := L) hm1 hm4 hL
    have lB := hB.f.len
    conv => whnf
    refine opt_s (show strsIn (.tup (L.map D.str)) = some _ from strsOf_map _) ?_
    conv => whnf
    have e : scanBound = 4096 := rfl
    refine ⟨⟨by rw [e]; omega, by omega⟩, ?_⟩
    conv => whnf
    have eF : sset ([] ++ L) = sset L := by rw [List.nil_append]
    refine bench_make hm1 hm4 fun x S2 p hb2 hx0 k2 => ?_
    have tw := Keep.tw k2 tw
    have hs := k2 _ _ hs
    clear k2 hx0
    conv => whnf
    refine ⟨rfl, F__law_draw_r hs (by decide) (by decide) _ _ fun d hd => ?_⟩
    obtain ⟨i, rfl, i0, i1⟩ := hd
    clear hs
    conv => whnf
    refine ⟨.inl rfl, ?_⟩
    conv => whnf
    generalize eqD (.int i) (.int 0) = inner
    refine ⟨sz (n := 2) (by decide), ?_⟩
    conv => whnf
    have hA0 := fam_nil hm1 hm4
    have hF0 : ∀ B ∈ ([] : List (List Str)), FamN n B := fun _ h => absurd h List.not_mem_nil
    -- an attempt that fails
    refine lam_tw tw m3 fun P' S3 tw3 k3 => ?_
    have hb3 := hb2.kq k3
    conv => whnf
    refine ⟨rfl, F__law_tried_r tw3 (List.mem_cons_of_mem _ m1) (List.mem_cons_of_mem _ m2) hA0 hF0 hL hL4 hb3 (by decide) fun S4 p4 hb4 tw4 _ => ⟨rfl, "number", by decide, ?_⟩⟩
    have tw4 := tw4.mono (Ps' := Ps) fun z hz => List.mem_cons_of_mem _ hz
    clear tw tw3 k3 hb2 hb3
    conv => whnf
    refine ⟨.inl rfl, ?_⟩
    conv => whnf
    refine ite_f (by decide +kernel) ?_
    conv => whnf
    refine ⟨sz (n := 0) (by decide), ?_⟩
    conv => whnf
    refine ⟨rfl, F__law_bench_shows_r (A := []) (past := []) hA0 hb4 (by decide) _ _ ?_⟩
    conv => whnf
    refine ite_f rfl ?_
    conv => whnf
    -- the deeds
    refine ⟨x, _, rfl, hb4.hx, ?_⟩
    conv => whnf
    refine ⟨rfl, ?_⟩
    conv => whnf
    refine lam_tw tw4 m3 fun P' S5 tw5 k5 => ?_
    have tw5 := tw5.mono (Ps' := Ps) fun z hz => List.mem_cons_of_mem _ hz
    have hb5 := hb4.kq k5
    clear hb4 tw4 k5
    refine F_Bench_attempt_r hb5 (by decide) fun pc hpc Q1 E1 hQ hE => ?_
    have k6 := keep_up hpc (m := pastO [])
    have hb6 : Ben (S5.up pc (pastO [])) x p4 n [] [] := ⟨k6 _ _ hb5.hx, k6 _ _ hb5.hp⟩
    have tw6 := Keep.tw k6 tw5
    conv => whnf
    refine ⟨rfl, F__law_deeds_r hA0 hF0 hL hL4 hb6 (by decide) fun S7 hb7 k7 => hQ _ _ _ _ hb7.hx ?_⟩
    have tw7 := k7.tw hb6 tw6
    rw [eF] at hb7
    clear hb6 tw6 k7 hb5 tw5 k6 hQ hE hpc
    conv => whnf
    refine ⟨.inl rfl, ?_⟩
    conv => whnf
    refine ite_f (by decide +kernel) ?_
    conv => whnf
    refine ⟨rfl, F__law_bench_shows_r (A := sset L) (past := [[], sset L]) hB hb7 (show (2 : Nat) < 1000 from by decide) _ _ ?_⟩
    conv => whnf
    refine ite_f rfl ?_
    conv => whnf
    -- a set that is none
    refine lam_tw tw7 m3 fun P8 S8 tw8 k8 => ?_
    have hb8 := hb7.kq k8
    clear hb7 tw7 k8
    conv => whnf
    refine ⟨x, _, rfl, hb8.hx, ?_⟩
    conv => whnf
    refine ⟨rfl, ?_⟩
    conv => whnf
    refine lam_tw tw8 List.mem_cons_self fun P9 S9 tw9 k9 => ?_
    have tw9 := tw9.mono (Ps' := Ps) fun z hz => List.mem_cons_of_mem _ (List.mem_cons_of_mem _ hz)
    have hb9 := hb8.kq k9
    clear hb8 tw8 k9
    refine att_fails (c := "InvalidSet") tw9 hb9 (show (2 : Nat) ≤ 100 from by decide) (fun S1 p1 hb1 Q1 E1 hE => ?_) fun S10 p10 hb10 tw10 => ⟨rfl, "set", by decide, ?_⟩
    · conv => whnf
      refine ⟨x, _, rfl, hb1.hx, ?_⟩
      conv => whnf
      refine ⟨rfl, ?_⟩
      conv => whnf
      exact ⟨rfl, F_Bench_put_bad hB ⟨_, rfl⟩ (e_bad n hm4).1 hb1 hE⟩
    clear hb9 tw9
    conv => whnf
    refine ⟨.inl rfl, ?_⟩
    conv => whnf
    refine ite_f (by decide +kernel) ?_
    conv => whnf
    have hF2 : ∀ B ∈ [[], sset L], FamN n B := fun B hB' => by
      rcases List.mem_cons.mp hB' with rfl | hB'
      · exact hA0
      · rw [List.mem_singleton.mp hB']; exact hB
    -- an attempt that fails, the other way
    refine lam_tw tw10 m3 fun P' S11 tw11 k11 => ?_
    have hb11 := hb10.kq k11
    conv => whnf
    refine ⟨rfl, F__law_tried_r tw11 (List.mem_cons_of_mem _ m1) (List.mem_cons_of_mem _ m2) hB hF2 hL hL4 hb11 (show (2 : Nat) ≤ 20 from by decide) fun S12 p12 hb12 tw12 _ => ⟨rfl, "number", by decide, ?_⟩⟩
    have tw12 := tw12.mono (Ps' := Ps) fun z hz => List.mem_cons_of_mem _ hz
    clear tw10 tw11 k11 hb10 hb11
    conv => whnf
    refine ⟨.inl rfl, ?_⟩
    conv => whnf
    refine ite_f (by decide +kernel) ?_
    conv => whnf
    -- a letter that is none
    refine lam_tw tw12 m3 fun P8 S8 tw8 k8 => ?_
    have hb8 := hb12.kq k8
    clear hb12 tw12 k8
    conv => whnf
    refine ⟨x, _, rfl, hb8.hx, ?_⟩
    conv => whnf
    refine ⟨rfl, ?_⟩
    conv => whnf
    refine lam_tw tw8 List.mem_cons_self fun P9 S9 tw9 k9 => ?_
    have tw9 := tw9.mono (Ps' := Ps) fun z hz => List.mem_cons_of_mem _ (List.mem_cons_of_mem _ hz)
    have hb9 := hb8.kq k9
    clear hb8 tw8 k9
    refine att_fails (c := "InvalidLetter") tw9 hb9 (show (2 : Nat) ≤ 100 from by decide) (fun S1 p1 hb1 Q1 E1 hE => ?_) fun S13 p13 hb13 tw13 => ⟨rfl, "letter", by decide, ?_⟩
    · conv => whnf
      refine ⟨x, _, rfl, hb1.hx, ?_⟩
      conv => whnf
      refine ⟨rfl, ?_⟩
      conv => whnf
      exact ⟨rfl, F_Bench_squeeze_bad (fun c e => by cases e; decide) ⟨_, rfl⟩ (e_bad n hm4).2 hb1 hE⟩
    clear hb9 tw9
    conv => whnf
    refine ⟨.inl rfl, ?_⟩
    conv => whnf
    refine ite_f (by decide +kernel) ?_
    conv => whnf
    refine ⟨sz (n := 2) (by decide), ?_⟩
    conv => whnf
    refine ⟨sz (n := 0) (by decide), ?_⟩
    conv => whnf
    refine ⟨sz (n := 2) (by decide), ?_⟩
    conv => whnf
    refine ⟨sz (n := 2) (by decide), ?_⟩
    conv => whnf
    -- back
    refine ⟨x, _, rfl, hb13.hx, ?_⟩
    conv => whnf
    refine ⟨rfl, rfl, F_Bench_undo_r (past := [[]]) (B := sset L) hb13 (fun C hC => (hF2 C hC).f) (by decide) fun S14 hb14 k14 => ?_⟩
    have tw14 := k14.tw hb13 tw13
    clear hb13 tw13 k14
    conv => whnf
    refine ite_f rfl ?_
    conv => whnf
    refine ⟨rfl, F__law_bench_shows_r (A := sset L) (past := [[]]) hB hb14 (by decide) _ _ ?_⟩
    conv => whnf
    refine ite_f rfl ?_
    conv => whnf
    refine ⟨x, _, rfl, hb14.hx, ?_⟩
    conv => whnf
    refine ⟨rfl, rfl, F_Bench_undo_r (past := []) (B := []) hb14 (fun C hC => (hF2 C (List.mem_cons.mpr (.inl (List.mem_singleton.mp hC)))).f) (by decide) fun S15 hb15 k15 => ?_⟩
    have tw15 := k15.tw hb14 tw14
    clear hb14 tw14 k15
    conv => whnf
    refine ite_f rfl ?_
    conv => whnf
    refine ⟨rfl, F__law_bench_shows_r (A := []) (past := []) hA0 hb15 (by decide) _ _ ?_⟩
    conv => whnf
    refine ite_f rfl ?_
    conv => whnf
    -- nothing to take back
    refine lam_tw tw15 m3 fun P8 S8 tw8 k8 => ?_
    have hb8 := hb15.kq k8
    clear hb15 tw15 k8
    conv => whnf
    refine ⟨x, _, rfl, hb8.hx, ?_⟩
    conv => whnf
    refine ⟨rfl, ?_⟩
    conv => whnf
    refine lam_tw tw8 List.mem_cons_self fun P9 S9 tw9 k9 => ?_
    have tw9 := tw9.mono (Ps' := Ps) fun z hz => List.mem_cons_of_mem _ (List.mem_cons_of_mem _ hz)
    have hb9 := hb8.kq k9
    clear hb8 tw8 k9
    refine att_fails (c := "NothingToUndo") tw9 hb9 (by decide) (fun S1 p1 hb1 Q1 E1 hE => ?_) fun S16 p16 hb16 tw16 => ⟨rfl, "nothing", by decide, ?_⟩
    · conv => whnf
      refine ⟨x, _, rfl, hb1.hx, ?_⟩
      conv => whnf
      exact ⟨rfl, rfl, F_Bench_undo_bad hb1 hE⟩
    clear hb9 tw9
    conv => whnf
    refine ⟨.inl rfl, ?_⟩
    conv => whnf
    refine ite_f (by decide +kernel) ?_
    conv => whnf
    -- five
    refine ⟨x, _, rfl, hb16.hx, ?_⟩
    conv => whnf
    refine ⟨rfl, ?_⟩
    conv => whnf
    refine lam_tw tw16 m3 fun P' S17 tw17 k17 => ?_
    have tw17 := tw17.mono (Ps' := Ps) fun z hz => List.mem_cons_of_mem _ hz
    have hb17 := hb16.kq k17
    clear hb16 tw16 k17
    refine F_Bench_attempt_r hb17 (by decide) fun pc hpc Q1 E1 hQ hE => ?_
    have k18 := keep_up hpc (m := pastO [])
    have hb18 : Ben (S17.up pc (pastO [])) x p16 n [] [] := ⟨k18 _ _ hb17.hx, k18 _ _ hb17.hp⟩
    have tw18 := Keep.tw k18 tw17
    conv => whnf
    refine hQ _ _ _ _ hb18.hx ?_
    clear hQ hE k18 tw17 hb17
    conv => whnf
    refine ⟨.inl rfl, ?_⟩
    conv => whnf
    refine ite_f (by decide +kernel) ?_
    conv => whnf
    refine bench_make hm1 hm4 fun y S19 q hy hy0 k19 => ?_
    have hb19 : Ben S19 x p16 n [] [] := ⟨k19 _ _ hb18.hx, k19 _ _ hb18.hp⟩
    have tw19 := Keep.tw k19 tw18
    conv => whnf
    refine ⟨.inl ⟨y, _, rfl, hy.hx⟩, ?_⟩
    conv => whnf
    refine ⟨x, _, rfl, hb19.hx, ?_⟩
    refine ⟨rfl, F_Bench_eq_r hA0.f hA0.f hb19 hy _ _ ?_⟩
    rw [decide_eq_true rfl]
    conv => whnf
    refine ite_f rfl ?_
    conv => whnf
    exact hn' _ _ ⟨fun k hk' => hk k (List.mem_cons_of_mem _ hk'), tw19, _, _, _, _, _, _, _, _, _, _, _, rfl⟩
  · obtain ⟨hk, tw, s1, s2, s3, s4, s5, s6, s7, s8, s9, s10, s11, rfl⟩ := hI
    conv => whnf
  · have hk := List.mem_range.mp hk
    omega
-- only: k15
def tq15 : List (He.Defn × Str) := [(("_law_fails", none), qF), (("_law_tried", none), qT), (("law", none), qLa)]
-- only: k15
theorem data_ok0 (K : PySem.W.Frag) (ns : List Int) (hx : (tq15.map fun p => (He.cT K p.1).2).Nodup) (hl : ns.length ≤ 63) (hb : ∀ z ∈ ns, Builtin.Int.intBits z ≤ 1048576) : F_law (He.cT K ("_law_fails", none)).2 (He.cT K ("_law_tried", none)).2 (He.cT K ("law", none)).2 [.frz (ns.map D.int)] (S0T K tq15) (fun d _ => d = .bl true) fun _ _ => False := by
  have nd : ((tq15.map fun p => ((He.cT K p.1).2, p.2)).map (·.1)).Nodup := by rw [List.map_map]; exact hx
  refine k15_data ⟨fun a => ((tq15.map fun p => ((He.cT K p.1).2, p.2)).lookup a).map fun q => (q, []), ⟨fun P q L e => ?_, fun P q L e P' hP' => ?_⟩, fun z hz => ?_⟩ hl hb
  · obtain ⟨v, h1, h2⟩ := Option.map_eq_some_iff.mp e
    cases h2
    unfold S0T
    rw [h1]; rfl
  · obtain ⟨v, h1, h2⟩ := Option.map_eq_some_iff.mp e
    cases h2
    exact absurd hP' List.not_mem_nil
  · simp only [List.mem_cons, List.not_mem_nil, or_false] at hz
    rcases hz with rfl | rfl | rfl
    · exact ⟨[], by show ((tq15.map fun p => ((He.cT K p.1).2, p.2)).lookup _).map _ = _; rw [lookup_of nd (p := ((He.cT K ("_law_fails", none)).2, qF)) (List.Mem.head _)]; rfl⟩
    · exact ⟨[], by show ((tq15.map fun p => ((He.cT K p.1).2, p.2)).lookup _).map _ = _; rw [lookup_of nd (p := ((He.cT K ("_law_tried", none)).2, qT)) (List.Mem.tail _ (List.Mem.head _))]; rfl⟩
    · exact ⟨[], by show ((tq15.map fun p => ((He.cT K p.1).2, p.2)).lookup _).map _ = _; rw [lookup_of nd (p := ((He.cT K ("law", none)).2, qLa)) (List.Mem.tail _ (List.Mem.tail _ (List.Mem.head _)))]; rfl⟩
end Em


set_option Elab.async false
set_option linter.all false
set_option maxRecDepth 100000
set_option maxHeartbeats 4000000
namespace Em
open PySem PySem.Spec PyProof.Rows L2 DL OrdS
def top (i : Nat) : Stmt := PySem.Challenge.pw_evenlymet_k15_attempts_at_benches.main.body.getD i (.Pass ⟨0, 0, 0, 0⟩)
def cm (i j : Nat) : Stmt := (match top i with
  | .ClassDef (body := b) .. => b
  | _ => []).getD j (.Pass ⟨0, 0, 0, 0⟩)
abbrev s_is_number : Stmt := top 10
theorem sc_is_number : FnScope ["value", "least", "most"] ["value", "least", "most"] (defScope s_is_number) := ⟨rfl, rfl, rfl, by decide +kernel, rfl, by decide +kernel, by decide +kernel⟩
abbrev s_is_good_set : Stmt := top 11
theorem sc_is_good_set : FnScope ["letters", "value", "letter"] ["letters", "value"] (defScope s_is_good_set) := ⟨rfl, rfl, rfl, by decide +kernel, rfl, by decide +kernel, by decide +kernel⟩
abbrev s_need_letters : Stmt := top 12
theorem sc_need_letters : FnScope ["letters", "most"] ["letters", "most"] (defScope s_need_letters) := ⟨rfl, rfl, rfl, by decide +kernel, rfl, by decide +kernel, by decide +kernel⟩
abbrev s_need_set : Stmt := top 13
theorem sc_need_set : FnScope ["letters", "value"] ["letters", "value"] (defScope s_need_set) := ⟨rfl, rfl, rfl, by decide +kernel, rfl, by decide +kernel, by decide +kernel⟩
abbrev s_joined : Stmt := top 14
theorem sc_joined : FnScope ["one", "other", "letter"] ["one", "other"] (defScope s_joined) := ⟨rfl, rfl, rfl, by decide +kernel, rfl, by decide +kernel, by decide +kernel⟩
abbrev s_met : Stmt := top 15
theorem sc_met : FnScope ["one", "other", "letter"] ["one", "other"] (defScope s_met) := ⟨rfl, rfl, rfl, by decide +kernel, rfl, by decide +kernel, by decide +kernel⟩
abbrev s_less : Stmt := top 16
theorem sc_less : FnScope ["one", "other", "letter"] ["one", "other"] (defScope s_less) := ⟨rfl, rfl, rfl, by decide +kernel, rfl, by decide +kernel, by decide +kernel⟩
abbrev s_is_in : Stmt := top 17
theorem sc_is_in : FnScope ["one", "other"] ["one", "other"] (defScope s_is_in) := ⟨rfl, rfl, rfl, by decide +kernel, rfl, by decide +kernel, by decide +kernel⟩
abbrev s_every_set : Stmt := top 18
theorem sc_every_set : FnScope ["letters", "found", "letter", "one"] ["letters"] (defScope s_every_set) := ⟨rfl, rfl, rfl, by decide +kernel, rfl, by decide +kernel, by decide +kernel⟩
abbrev s_joins_of : Stmt := top 19
theorem sc_joins_of : FnScope ["one", "other", "mine", "yours"] ["one", "other"] (defScope s_joins_of) := ⟨rfl, rfl, rfl, by decide +kernel, rfl, by decide +kernel, by decide +kernel⟩
abbrev s_meets_of : Stmt := top 20
theorem sc_meets_of : FnScope ["one", "other", "mine", "yours"] ["one", "other"] (defScope s_meets_of) := ⟨rfl, rfl, rfl, by decide +kernel, rfl, by decide +kernel, by decide +kernel⟩
abbrev s_differences_of : Stmt := top 21
theorem sc_differences_of : FnScope ["one", "other", "mine", "yours"] ["one", "other"] (defScope s_differences_of) := ⟨rfl, rfl, rfl, by decide +kernel, rfl, by decide +kernel, by decide +kernel⟩
abbrev s_is_closed_down : Stmt := top 22
theorem sc_is_closed_down : FnScope ["family", "one", "other"] ["family"] (defScope s_is_closed_down) := ⟨rfl, rfl, rfl, by decide +kernel, rfl, by decide +kernel, by decide +kernel⟩
abbrev s_need_letter : Stmt := top 24
theorem sc_need_letter : FnScope ["letters", "value"] ["letters", "value"] (defScope s_need_letter) := ⟨rfl, rfl, rfl, by decide +kernel, rfl, by decide +kernel, by decide +kernel⟩
abbrev s_squeezed_by : Stmt := top 25
theorem sc_squeezed_by : FnScope ["family", "letter", "found", "one", "rest"] ["family", "letter"] (defScope s_squeezed_by) := ⟨rfl, rfl, rfl, by decide +kernel, rfl, by decide +kernel, by decide +kernel⟩
abbrev s_picks : Stmt := top 26
theorem sc_picks : FnScope ["family", "one", "parts", "other", "part"] ["family", "one"] (defScope s_picks) := ⟨rfl, rfl, rfl, by decide +kernel, rfl, by decide +kernel, by decide +kernel⟩
abbrev s_word_of : Stmt := top 28
theorem sc_word_of : FnScope ["one"] ["one"] (defScope s_word_of) := ⟨rfl, rfl, rfl, by decide +kernel, rfl, by decide +kernel, by decide +kernel⟩
abbrev s_Bench_len : Stmt := cm 31 14
theorem sc_Bench_len : FnScope ["self"] ["self"] (defScope s_Bench_len) := ⟨rfl, rfl, rfl, by decide +kernel, rfl, by decide +kernel, by decide +kernel⟩
abbrev s_Bench_getitem : Stmt := cm 31 12
theorem sc_Bench_getitem : FnScope ["self", "index"] ["self", "index"] (defScope s_Bench_getitem) := ⟨rfl, rfl, rfl, by decide +kernel, rfl, by decide +kernel, by decide +kernel⟩
abbrev s__law_source : Stmt := top 33
theorem sc__law_source : FnScope ["_law_script", "_law_k", "_law_cell"] ["_law_script", "_law_k"] (defScope s__law_source) := ⟨rfl, rfl, rfl, by decide +kernel, rfl, by decide +kernel, by decide +kernel⟩
abbrev s__law_draw : Stmt := top 34
theorem sc__law_draw : FnScope ["_law_source_here", "_law_many", "_law_found"] ["_law_source_here", "_law_many"] (defScope s__law_draw) := ⟨rfl, rfl, rfl, by decide +kernel, rfl, by decide +kernel, by decide +kernel⟩
abbrev s__law_of : Stmt := top 35
theorem sc__law_of : FnScope ["_law_source_here", "_law_items"] ["_law_source_here", "_law_items"] (defScope s__law_of) := ⟨rfl, rfl, rfl, by decide +kernel, rfl, by decide +kernel, by decide +kernel⟩
abbrev s_Bench_contains : Stmt := cm 31 13
theorem sc_Bench_contains : FnScope ["self", "value"] ["self", "value"] (defScope s_Bench_contains) := ⟨rfl, rfl, rfl, by decide +kernel, rfl, by decide +kernel, by decide +kernel⟩
abbrev s__law_join : Stmt := top 36
theorem sc__law_join : FnScope ["_law_one", "_law_other", "_law_letter"] ["_law_one", "_law_other"] (defScope s__law_join) := ⟨rfl, rfl, rfl, by decide +kernel, rfl, by decide +kernel, by decide +kernel⟩
abbrev s__law_meet : Stmt := top 37
theorem sc__law_meet : FnScope ["_law_one", "_law_other", "_law_letter"] ["_law_one", "_law_other"] (defScope s__law_meet) := ⟨rfl, rfl, rfl, by decide +kernel, rfl, by decide +kernel, by decide +kernel⟩
abbrev s__law_less : Stmt := top 38
theorem sc__law_less : FnScope ["_law_one", "_law_other", "_law_letter"] ["_law_one", "_law_other"] (defScope s__law_less) := ⟨rfl, rfl, rfl, by decide +kernel, rfl, by decide +kernel, by decide +kernel⟩
abbrev s__law_sets : Stmt := top 39
theorem sc__law_sets : FnScope ["_law_letters", "_law_found", "_law_letter", "_law_one"] ["_law_letters"] (defScope s__law_sets) := ⟨rfl, rfl, rfl, by decide +kernel, rfl, by decide +kernel, by decide +kernel⟩
abbrev s_Bench_init : Stmt := cm 31 1
theorem sc_Bench_init : FnScope ["self", "letters"] ["self", "letters"] (defScope s_Bench_init) := ⟨rfl, rfl, rfl, by decide +kernel, rfl, by decide +kernel, by decide +kernel⟩
abbrev s_Bench_eq : Stmt := cm 31 17
theorem sc_Bench_eq : FnScope ["self", "other"] ["self", "other"] (defScope s_Bench_eq) := ⟨rfl, rfl, rfl, by decide +kernel, rfl, by decide +kernel, by decide +kernel⟩
abbrev s__law_within : Stmt := top 40
theorem sc__law_within : FnScope ["_law_one", "_law_other", "_law_letter"] ["_law_one", "_law_other"] (defScope s__law_within) := ⟨rfl, rfl, rfl, by decide +kernel, rfl, by decide +kernel, by decide +kernel⟩
abbrev s__law_made : Stmt := top 41
theorem sc__law_made : FnScope ["_law_one", "_law_other", "_law_word_here", "_law_found", "_law_mine", "_law_yours"] ["_law_one", "_law_other", "_law_word_here"] (defScope s__law_made) := ⟨rfl, rfl, rfl, by decide +kernel, rfl, by decide +kernel, by decide +kernel⟩
abbrev s__law_is_down : Stmt := top 42
theorem sc__law_is_down : FnScope ["_law_family", "_law_one", "_law_letter"] ["_law_family"] (defScope s__law_is_down) := ⟨rfl, rfl, rfl, by decide +kernel, rfl, by decide +kernel, by decide +kernel⟩
abbrev s__law_picks : Stmt := top 43
theorem sc__law_picks : FnScope ["_law_family", "_law_one", "_law_parts", "_law_every", "_law_other", "_law_part"] ["_law_family", "_law_one"] (defScope s__law_picks) := ⟨rfl, rfl, rfl, by decide +kernel, rfl, by decide +kernel, by decide +kernel⟩
abbrev s_Bench_letters : Stmt := cm 31 2
theorem sc_Bench_letters : FnScope ["self"] ["self"] (defScope s_Bench_letters) := ⟨rfl, rfl, rfl, by decide +kernel, rfl, by decide +kernel, by decide +kernel⟩
abbrev s_Bench_family : Stmt := cm 31 3
theorem sc_Bench_family : FnScope ["self"] ["self"] (defScope s_Bench_family) := ⟨rfl, rfl, rfl, by decide +kernel, rfl, by decide +kernel, by decide +kernel⟩
abbrev s_Bench_counts : Stmt := cm 31 4
theorem sc_Bench_counts : FnScope ["self", "now"] ["self"] (defScope s_Bench_counts) := ⟨rfl, rfl, rfl, by decide +kernel, rfl, by decide +kernel, by decide +kernel⟩
abbrev s_Bench_bool : Stmt := cm 31 15
theorem sc_Bench_bool : FnScope ["self"] ["self"] (defScope s_Bench_bool) := ⟨rfl, rfl, rfl, by decide +kernel, rfl, by decide +kernel, by decide +kernel⟩
abbrev s_Bench_lines : Stmt := cm 31 18
theorem sc_Bench_lines : GScope ["self", "family", "one"] ["self"] (defScope s_Bench_lines) := ⟨rfl, rfl, rfl, by decide +kernel, rfl, by decide +kernel, by decide +kernel⟩
abbrev s__law_bench_shows : Stmt := top 44
theorem sc__law_bench_shows : FnScope ["_law_bench", "_law_letters", "_law_family", "_law_many", "_law_counts", "_law_value", "_law_rows", "_law_one", "_law_word_here", "_law_index"] ["_law_bench", "_law_letters", "_law_family", "_law_many"] (defScope s__law_bench_shows) := ⟨rfl, rfl, rfl, by decide +kernel, rfl, by decide +kernel, by decide +kernel⟩
abbrev s_Bench_keep : Stmt := cm 31 5
theorem sc_Bench_keep : FnScope ["self", "now", "old"] ["self", "now"] (defScope s_Bench_keep) := ⟨rfl, rfl, rfl, by decide +kernel, rfl, by decide +kernel, by decide +kernel⟩
abbrev s_Bench_iadd : Stmt := cm 31 9
theorem sc_Bench_iadd : FnScope ["self", "sets", "one"] ["self", "sets"] (defScope s_Bench_iadd) := ⟨rfl, rfl, rfl, by decide +kernel, rfl, by decide +kernel, by decide +kernel⟩
abbrev s_Bench_strike : Stmt := cm 31 7
theorem sc_Bench_strike : FnScope ["self", "lot", "one"] ["self", "lot"] (defScope s_Bench_strike) := ⟨rfl, rfl, rfl, by decide +kernel, rfl, by decide +kernel, by decide +kernel⟩
abbrev s_Bench_undo : Stmt := cm 31 10
theorem sc_Bench_undo : FnScope ["self"] ["self"] (defScope s_Bench_undo) := ⟨rfl, rfl, rfl, by decide +kernel, rfl, by decide +kernel, by decide +kernel⟩
abbrev s__law_deeds : Stmt := top 45
theorem sc__law_deeds : FnScope ["_law_bench", "_law_sets_here"] ["_law_bench", "_law_sets_here"] (defScope s__law_deeds) := ⟨rfl, rfl, rfl, by decide +kernel, rfl, by decide +kernel, by decide +kernel⟩
abbrev s_Bench_attempt : Stmt := cm 31 11
theorem sc_Bench_attempt : FnScope ["self", "action", "now", "past", "found"] ["self", "action"] (defScope s_Bench_attempt) := ⟨rfl, rfl, rfl, by decide +kernel, rfl, by decide +kernel, by decide +kernel⟩
abbrev s__law_fails : Stmt := top 46
theorem sc__law_fails : FnScope ["_law_bench", "_law_sets_here", "_law_inner"] ["_law_bench", "_law_sets_here", "_law_inner"] (defScope s__law_fails) := ⟨rfl, rfl, rfl, by decide +kernel, rfl, by decide +kernel, by decide +kernel⟩
abbrev s__law_tried : Stmt := top 47
theorem sc__law_tried : FnScope ["_law_bench", "_law_sets_here", "_law_inner"] ["_law_bench", "_law_sets_here", "_law_inner"] (defScope s__law_tried) := ⟨rfl, rfl, rfl, by decide +kernel, rfl, by decide +kernel, by decide +kernel⟩
abbrev s__law_word : Stmt := top 48
theorem sc__law_word : FnScope ["_law_call", "_law_word_here"] ["_law_call"] (defScope s__law_word) := ⟨rfl, rfl, rfl, by decide +kernel, rfl, by decide +kernel, by decide +kernel⟩
abbrev s_Bench_put : Stmt := cm 31 6
theorem sc_Bench_put : FnScope ["self", "lot"] ["self", "lot"] (defScope s_Bench_put) := ⟨rfl, rfl, rfl, by decide +kernel, rfl, by decide +kernel, by decide +kernel⟩
abbrev s_Bench_squeeze : Stmt := cm 31 8
theorem sc_Bench_squeeze : FnScope ["self", "letter"] ["self", "letter"] (defScope s_Bench_squeeze) := ⟨rfl, rfl, rfl, by decide +kernel, rfl, by decide +kernel, by decide +kernel⟩
abbrev s_law : Stmt := top 49
theorem sc_law : FnScope ["_law_script", "_law_k", "_law_source_here", "_law_letters", "_law_many", "_law_every", "_law_sets_here", "_law_family", "_law_bench", "_law_inner", "_law_now", "_law_turn"] ["_law_script"] (defScope s_law) := ⟨rfl, rfl, rfl, by decide +kernel, rfl, by decide +kernel, by decide +kernel⟩
def fa : List He.Fa := [.glo "is_number", .free "int", .free "isinstance", .free "bool", .glo "is_good_set", .free "str", .str "LETTERS" "abcd", .glo "need_letters", .glo "InvalidLetters", .exc "InvalidLetters", .glo "need_set", .glo "InvalidSet", .exc "InvalidSet", .glo "joined", .glo "met", .glo "less", .glo "is_in", .glo "every_set", .free "sorted", .free "tuple", .glo "joins_of", .free "set", .glo "meets_of", .glo "differences_of", .glo "is_closed_down", .free "any", .free "all", .glo "need_letter", .free "len", .glo "InvalidLetter", .exc "InvalidLetter", .glo "squeezed_by", .glo "picks", .glo "word_of", .cls "Bench", .noat "Bench" "past", .noat "Bench" "now", .glo "InvalidNumber", .exc "InvalidNumber", .glo "_law_source", .free "abs", .glo "_law_draw", .glo "_law_of", .glo "_law_join", .glo "_law_meet", .glo "_law_less", .glo "_law_sets", .noat "Bench" "base", .glo "Bench", .glo "_law_within", .glo "_law_made", .glo "_law_is_down", .glo "_law_picks", .glo "_law_bench_shows", .free "range", .free "list", .meth "Bench" "lines", .int "CALLS" 40, .meth "Bench" "keep", .glo "NothingToUndo", .exc "NothingToUndo", .glo "_law_deeds", .meth "Bench" "strike", .meth "Bench" "undo", .glo "_law_fails", .meth "Bench" "attempt", .glo "_law_tried", .glo "_law_word", .glo "MeetError", .glo "law", .free "min", .mkr "Bench", .meth "Bench" "put", .meth "Bench" "squeeze"]
def fn : List He.DefD := [⟨("is_number", none), "is_number", "is_number", defArgs s_is_number, defBody s_is_number, defScope s_is_number, [], []⟩, ⟨("is_good_set", none), "is_good_set", "is_good_set", defArgs s_is_good_set, defBody s_is_good_set, defScope s_is_good_set, [], []⟩, ⟨("need_letters", none), "need_letters", "need_letters", defArgs s_need_letters, defBody s_need_letters, defScope s_need_letters, [], []⟩, ⟨("need_set", none), "need_set", "need_set", defArgs s_need_set, defBody s_need_set, defScope s_need_set, [], []⟩, ⟨("joined", none), "joined", "joined", defArgs s_joined, defBody s_joined, defScope s_joined, [], []⟩, ⟨("met", none), "met", "met", defArgs s_met, defBody s_met, defScope s_met, [], []⟩, ⟨("less", none), "less", "less", defArgs s_less, defBody s_less, defScope s_less, [], []⟩, ⟨("is_in", none), "is_in", "is_in", defArgs s_is_in, defBody s_is_in, defScope s_is_in, [], []⟩, ⟨("every_set", none), "every_set", "every_set", defArgs s_every_set, defBody s_every_set, defScope s_every_set, [], []⟩, ⟨("joins_of", none), "joins_of", "joins_of", defArgs s_joins_of, defBody s_joins_of, defScope s_joins_of, [], []⟩, ⟨("meets_of", none), "meets_of", "meets_of", defArgs s_meets_of, defBody s_meets_of, defScope s_meets_of, [], []⟩, ⟨("differences_of", none), "differences_of", "differences_of", defArgs s_differences_of, defBody s_differences_of, defScope s_differences_of, [], []⟩, ⟨("is_closed_down", none), "is_closed_down", "is_closed_down", defArgs s_is_closed_down, defBody s_is_closed_down, defScope s_is_closed_down, [], []⟩, ⟨("need_letter", none), "need_letter", "need_letter", defArgs s_need_letter, defBody s_need_letter, defScope s_need_letter, [], []⟩, ⟨("squeezed_by", none), "squeezed_by", "squeezed_by", defArgs s_squeezed_by, defBody s_squeezed_by, defScope s_squeezed_by, [], []⟩, ⟨("picks", none), "picks", "picks", defArgs s_picks, defBody s_picks, defScope s_picks, [], []⟩, ⟨("word_of", none), "word_of", "word_of", defArgs s_word_of, defBody s_word_of, defScope s_word_of, [], []⟩, ⟨("Bench", some "__len__"), "__len__", "Bench.__len__", defArgs s_Bench_len, defBody s_Bench_len, defScope s_Bench_len, [], []⟩, ⟨("Bench", some "__getitem__"), "__getitem__", "Bench.__getitem__", defArgs s_Bench_getitem, defBody s_Bench_getitem, defScope s_Bench_getitem, [], []⟩, ⟨("_law_source", none), "_law_source", "_law_source", defArgs s__law_source, defBody s__law_source, defScope s__law_source, [], []⟩, ⟨("_law_draw", none), "_law_draw", "_law_draw", defArgs s__law_draw, defBody s__law_draw, defScope s__law_draw, [], []⟩, ⟨("_law_of", none), "_law_of", "_law_of", defArgs s__law_of, defBody s__law_of, defScope s__law_of, [], []⟩, ⟨("Bench", some "__contains__"), "__contains__", "Bench.__contains__", defArgs s_Bench_contains, defBody s_Bench_contains, defScope s_Bench_contains, [], []⟩, ⟨("_law_join", none), "_law_join", "_law_join", defArgs s__law_join, defBody s__law_join, defScope s__law_join, [], []⟩, ⟨("_law_meet", none), "_law_meet", "_law_meet", defArgs s__law_meet, defBody s__law_meet, defScope s__law_meet, [], []⟩, ⟨("_law_less", none), "_law_less", "_law_less", defArgs s__law_less, defBody s__law_less, defScope s__law_less, [], []⟩, ⟨("_law_sets", none), "_law_sets", "_law_sets", defArgs s__law_sets, defBody s__law_sets, defScope s__law_sets, [], []⟩, ⟨("Bench", some "__init__"), "__init__", "Bench.__init__", defArgs s_Bench_init, defBody s_Bench_init, defScope s_Bench_init, [], []⟩, ⟨("Bench", some "__eq__"), "__eq__", "Bench.__eq__", defArgs s_Bench_eq, defBody s_Bench_eq, defScope s_Bench_eq, [], []⟩, ⟨("_law_within", none), "_law_within", "_law_within", defArgs s__law_within, defBody s__law_within, defScope s__law_within, [], []⟩, ⟨("_law_made", none), "_law_made", "_law_made", defArgs s__law_made, defBody s__law_made, defScope s__law_made, [], []⟩, ⟨("_law_is_down", none), "_law_is_down", "_law_is_down", defArgs s__law_is_down, defBody s__law_is_down, defScope s__law_is_down, [], []⟩, ⟨("_law_picks", none), "_law_picks", "_law_picks", defArgs s__law_picks, defBody s__law_picks, defScope s__law_picks, [], []⟩, ⟨("Bench", some "__bool__"), "__bool__", "Bench.__bool__", defArgs s_Bench_bool, defBody s_Bench_bool, defScope s_Bench_bool, [], []⟩, ⟨("Bench", some "lines"), "lines", "Bench.lines", defArgs s_Bench_lines, defBody s_Bench_lines, defScope s_Bench_lines, [], []⟩, ⟨("_law_bench_shows", none), "_law_bench_shows", "_law_bench_shows", defArgs s__law_bench_shows, defBody s__law_bench_shows, defScope s__law_bench_shows, [], []⟩, ⟨("Bench", some "keep"), "keep", "Bench.keep", defArgs s_Bench_keep, defBody s_Bench_keep, defScope s_Bench_keep, [], []⟩, ⟨("Bench", some "__iadd__"), "__iadd__", "Bench.__iadd__", defArgs s_Bench_iadd, defBody s_Bench_iadd, defScope s_Bench_iadd, [], []⟩, ⟨("Bench", some "strike"), "strike", "Bench.strike", defArgs s_Bench_strike, defBody s_Bench_strike, defScope s_Bench_strike, [], []⟩, ⟨("Bench", some "undo"), "undo", "Bench.undo", defArgs s_Bench_undo, defBody s_Bench_undo, defScope s_Bench_undo, [], []⟩, ⟨("_law_deeds", none), "_law_deeds", "_law_deeds", defArgs s__law_deeds, defBody s__law_deeds, defScope s__law_deeds, [], []⟩, ⟨("Bench", some "attempt"), "attempt", "Bench.attempt", defArgs s_Bench_attempt, defBody s_Bench_attempt, defScope s_Bench_attempt, [], []⟩, ⟨("_law_fails", none), "_law_fails", "_law_fails", defArgs s__law_fails, defBody s__law_fails, defScope s__law_fails, [], []⟩, ⟨("_law_tried", none), "_law_tried", "_law_tried", defArgs s__law_tried, defBody s__law_tried, defScope s__law_tried, [], []⟩, ⟨("_law_word", none), "_law_word", "_law_word", defArgs s__law_word, defBody s__law_word, defScope s__law_word, [], []⟩, ⟨("Bench", some "put"), "put", "Bench.put", defArgs s_Bench_put, defBody s_Bench_put, defScope s_Bench_put, [], []⟩, ⟨("Bench", some "squeeze"), "squeeze", "Bench.squeeze", defArgs s_Bench_squeeze, defBody s_Bench_squeeze, defScope s_Bench_squeeze, [], []⟩, ⟨("law", none), "law", "law", defArgs s_law, defBody s_law, defScope s_law, [], []⟩]
def tq : List (He.Defn × Str) := [(("_law_fails", none), "_law_fails.<locals>.<lambda>"), (("_law_tried", none), "_law_tried.<locals>.<lambda>"), (("law", none), "law.<locals>.<lambda>")]
def exl : List (PySem.W.Frag → Bool) := [isiB "Bench", propB "Bench" "letters", propB "Bench" "family", opmB "Bench" "__len__", propB "Bench" "counts", opmB "Bench" "__bool__", opmB "Bench" "__getitem__", fnB "Bench" "__getitem__", opmB "Bench" "__contains__", opmB "Bench" "__iadd__", opmB "Bench" "__eq__", rightB "Bench", (fun K => decide ((tq.map fun p => (He.cT K p.1).2).Nodup))]
def ex : PySem.W.Frag → Bool := fun K => (excTB "MeetError" ["InvalidNumber", "InvalidSet", "InvalidLetter", "NothingToUndo"]) K && (exl.all fun b => b K)
def fy : List DefY := [⟨recA "property" "Bench" "letters", "letters", "Bench.letters", defArgs s_Bench_letters, defBody s_Bench_letters, defScope s_Bench_letters⟩, ⟨recA "property" "Bench" "family", "family", "Bench.family", defArgs s_Bench_family, defBody s_Bench_family, defScope s_Bench_family⟩, ⟨recA "property" "Bench" "counts", "counts", "Bench.counts", defArgs s_Bench_counts, defBody s_Bench_counts, defScope s_Bench_counts⟩]
section
variable {P : Program} {w : World} {K : PySem.W.Frag} {mg : Str → Option Value} {base : Heap} (W : HdY fa fn ex fy K mg)
include W
theorem WX : excTB "MeetError" ["InvalidNumber", "InvalidSet", "InvalidLetter", "NothingToUndo"] K = true := (Bool.and_eq_true_iff.mp W.x).1
theorem WEx : (exl.all fun b => b K) = true := (Bool.and_eq_true_iff.mp W.x).2
theorem ok_is_number : Ok P w K mg base 1 "is_number" ["value", "least", "most"] F_is_number :=
  mk_ok (m := m_is_number) (W.def_ 0 0 rfl rfl) sc_is_number (fun _ _ _ _ _ _ us hl => match us, hl with | [_, _, _], _ => rfl) (fun cdv A outer s H E b hcdv hr => (ss_one (s_ret (x_and (x_callB back_F call_isi s_isi (W.free 2 rfl) bb_isinstance (ab_cons (XE.bor (x_var 0)) (ab_cons (XE.bor (x_ty (W.free 1 rfl) bb_int)) ab_nil))) (x_and (x_not (x_callB back_F call_isi s_isi (W.free 2 rfl) bb_isinstance (ab_cons (XE.bor (x_var 0)) (ab_cons (XE.bor (x_ty (W.free 3 rfl) bb_bool)) ab_nil)))) (x_one (x_lele (XE.bor (x_var 1)) (XE.bor (x_var 0)) (XE.bor (x_var 2))))))))) (fun ds S Qd Ed hl h => by rw [F_is_number_eq] at h; exact h)
theorem ok_is_good_set : Ok P w K mg base 1 "is_good_set" ["letters", "value"] F_is_good_set :=
  mk_ok (m := m_is_good_set) (W.def_ 4 1 rfl rfl) sc_is_good_set (fun _ _ _ _ _ _ us hl => match us, hl with | [_, _], _ => rfl) (fun cdv A outer s H E b hcdv hr => (ss_cons (s_if (t_not (t_val (XE.bor (x_callB back_F call_isi s_isi (W.free 2 rfl) bb_isinstance (ab_cons (XE.bor (x_var 1)) (ab_cons (XE.bor (x_ty (W.free 5 rfl) bb_str)) ab_nil)))))) (ss_one (s_ret x_bl)) ss_nil) (ss_one (s_ret (x_eq hr (XE.bor (x_var 1)) (XE.bor (x_join (XE.bor x_str) (XN.bor (x_lc [("letter", 2)] rfl sc_is_good_set.nd (i_str (XE.bor (x_slice (XE.bor (x_gstr' (W.str 6 rfl))) o_non (o_som (XE.bor (x_var 0)))))) (by kernel_rfl) (tg_name 2) (by decide) (fun _ _ _ _ _ => (pg_name sc_is_good_set.nd (i := 2) rfl (by first | exact .inl rfl | exact .inr rfl))) (fun _ _ _ _ _ => (ts_one (t_in hr (XE.bor (x_var 2)) (XE.bor (x_var 1))))) (fun _ _ _ _ _ => (x_var 2))))))))))) (fun ds S Qd Ed hl h => by rw [F_is_good_set_eq] at h; exact h)
theorem ok_need_letters : Ok P w K mg base 2 "need_letters" ["letters", "most"] F_need_letters :=
  mk_ok (m := m_need_letters) (W.def_ 7 2 rfl rfl) sc_need_letters (fun _ _ _ _ _ _ us hl => match us, hl with | [_, _], _ => rfl) (fun cdv A outer s H E b hcdv hr => (ss_one (s_if (t_not (t_val (XE.bor (x_fn (ok_is_number W) hr (by decide) passB (a_cons (x_var 0) (a_cons x_int (a_cons (x_var 1) a_nil))))))) (ss_one (s_raise rfl takeB (W.exc 8 9 rfl rfl))) ss_nil))) (fun ds S Qd Ed hl h => by rw [F_need_letters_eq] at h; exact h)
theorem ok_need_set : Ok P w K mg base 2 "need_set" ["letters", "value"] F_need_set :=
  mk_ok (m := m_need_set) (W.def_ 10 3 rfl rfl) sc_need_set (fun _ _ _ _ _ _ us hl => match us, hl with | [_, _], _ => rfl) (fun cdv A outer s H E b hcdv hr => (ss_one (s_if (t_not (t_val (XE.bor (x_fn (ok_is_good_set W) hr (by decide) passB (a_cons (x_var 0) (a_cons (x_var 1) a_nil)))))) (ss_one (s_raise rfl takeB (W.exc 11 12 rfl rfl))) ss_nil))) (fun ds S Qd Ed hl h => by rw [F_need_set_eq] at h; exact h)
theorem ok_joined : Ok P w K mg base 1 "joined" ["one", "other"] F_joined :=
  mk_ok (m := m_joined) (W.def_ 13 4 rfl rfl) sc_joined (fun _ _ _ _ _ _ us hl => match us, hl with | [_, _], _ => rfl) (fun cdv A outer s H E b hcdv hr => (ss_one (s_ret (x_join (XE.bor x_str) (XN.bor (x_lc [("letter", 2)] rfl sc_joined.nd (i_str (XE.bor (x_gstr' (W.str 6 rfl)))) (by kernel_rfl) (tg_name 2) (by decide) (fun _ _ _ _ _ => (pg_name sc_joined.nd (i := 2) rfl (by first | exact .inl rfl | exact .inr rfl))) (fun _ _ _ _ _ => (ts_one (XW.t (w_or (t_in hr (XE.bor (x_var 2)) (XE.bor (x_var 0))) (w_or1 (t_in hr (XE.bor (x_var 2)) (XE.bor (x_var 1)))))))) (fun _ _ _ _ _ => (x_var 2)))))))) (fun ds S Qd Ed hl h => by rw [F_joined_eq] at h; exact h)
theorem ok_met : Ok P w K mg base 1 "met" ["one", "other"] F_met :=
  mk_ok (m := m_met) (W.def_ 14 5 rfl rfl) sc_met (fun _ _ _ _ _ _ us hl => match us, hl with | [_, _], _ => rfl) (fun cdv A outer s H E b hcdv hr => (ss_one (s_ret (x_join (XE.bor x_str) (XN.bor (x_lc [("letter", 2)] rfl sc_met.nd (i_str (XE.bor (x_var 0))) (by kernel_rfl) (tg_name 2) (by decide) (fun _ _ _ _ _ => (pg_name sc_met.nd (i := 2) rfl (by first | exact .inl rfl | exact .inr rfl))) (fun _ _ _ _ _ => (ts_one (t_in hr (XE.bor (x_var 2)) (XE.bor (x_var 1))))) (fun _ _ _ _ _ => (x_var 2)))))))) (fun ds S Qd Ed hl h => by rw [F_met_eq] at h; exact h)
theorem ok_less : Ok P w K mg base 1 "less" ["one", "other"] F_less :=
  mk_ok (m := m_less) (W.def_ 15 6 rfl rfl) sc_less (fun _ _ _ _ _ _ us hl => match us, hl with | [_, _], _ => rfl) (fun cdv A outer s H E b hcdv hr => (ss_one (s_ret (x_join (XE.bor x_str) (XN.bor (x_lc [("letter", 2)] rfl sc_less.nd (i_str (XE.bor (x_var 0))) (by kernel_rfl) (tg_name 2) (by decide) (fun _ _ _ _ _ => (pg_name sc_less.nd (i := 2) rfl (by first | exact .inl rfl | exact .inr rfl))) (fun _ _ _ _ _ => (ts_one (t_nin hr (XE.bor (x_var 2)) (XE.bor (x_var 1))))) (fun _ _ _ _ _ => (x_var 2)))))))) (fun ds S Qd Ed hl h => by rw [F_less_eq] at h; exact h)
theorem ok_is_in : Ok P w K mg base 2 "is_in" ["one", "other"] F_is_in :=
  mk_ok (m := m_is_in) (W.def_ 16 7 rfl rfl) sc_is_in (fun _ _ _ _ _ _ us hl => match us, hl with | [_, _], _ => rfl) (fun cdv A outer s H E b hcdv hr => (ss_one (s_ret (x_eq hr (XE.bor (x_fn (ok_less W) hr (by decide) passB (a_cons (x_var 0) (a_cons (x_var 1) a_nil)))) (XE.bor x_str))))) (fun ds S Qd Ed hl h => by rw [F_is_in_eq] at h; exact h)
theorem ok_every_set : Ok P w K mg base 1 "every_set" ["letters"] F_every_set :=
  mk_ok (m := m_every_set) (W.def_ 17 8 rfl rfl) sc_every_set (fun _ _ _ _ _ _ us hl => match us, hl with | [_], _ => rfl) (fun cdv A outer s H E b hcdv hr => (ss_cons (s_set 1 sc_every_set.nd (XN.stay (x_lst (a_cons x_str a_nil)))) (ss_cons (s_for ownB rfl (i_str (XE.bor (x_slice (XE.bor (x_gstr' (W.str 6 rfl))) o_non (o_som (XE.bor (x_var 0)))))) (pg_name sc_every_set.nd (i := 2) rfl (by first | exact .inl rfl | exact .inr rfl)) (tg_name 2) (ss_one (s_set 1 sc_every_set.nd (XN.stay (x_cat (XE.bor (x_var 1)) (XN.bor (x_lc [("one", 3)] rfl sc_every_set.nd (i_lst (x_var 1)) (by kernel_rfl) (tg_name 3) (by decide) (fun _ _ _ _ _ => (pg_name sc_every_set.nd (i := 3) rfl (by first | exact .inl rfl | exact .inr rfl))) (fun _ _ _ _ _ => ts_nil) (fun _ _ _ _ _ => (x_add (XE.bor (x_var 3)) (XE.bor (x_var 2))))))))))) (ss_one (s_ret (x_callTy back_F call_tuple_of s_tuple (W.free 19 rfl) bb_tuple (ab_cons (XN.bor (x_callB back_N cr_sortedS s_sorted (W.free 18 rfl) bb_sorted (ab_cons (XE.bor (x_var 1)) ab_nil))) ab_nil))))))) (fun ds S Qd Ed hl h => by rw [F_every_set_eq] at h; exact h)
theorem ok_joins_of : Ok P w K mg base 2 "joins_of" ["one", "other"] F_joins_of :=
  mk_ok (m := m_joins_of) (W.def_ 20 9 rfl rfl) sc_joins_of (fun _ _ _ _ _ _ us hl => match us, hl with | [_, _], _ => rfl) (fun cdv A outer s H E b hcdv hr => (ss_one (s_ret (x_callTy back_F call_tuple_of s_tuple (W.free 19 rfl) bb_tuple (ab_cons (XN.bor (x_sset rfl (W.free 18 rfl) (W.free 21 rfl) (XN.bor (x_lc2 [("mine", 2), ("yours", 3)] (vs1 := [3]) rfl sc_joins_of.nd (i_tup (x_var 0)) (by kernel_rfl) (tg_name 2) (by decide) (by decide) (tg_name 3) (by decide) (fun _ _ _ _ _ => (pg_name sc_joins_of.nd (i := 2) rfl (by first | exact .inl rfl | exact .inr rfl))) (fun _ _ _ _ _ => ts_nil) (fun _ _ _ _ _ => (i_tup (x_var 1))) (fun _ _ _ _ _ => (pg_name sc_joins_of.nd (i := 3) rfl (by first | exact .inl rfl | exact .inr rfl))) (fun _ _ _ _ _ => ts_nil) (fun _ _ _ _ _ => (x_fn (ok_joined W) hr (by decide) passL (a_cons (x_var 2) (a_cons (x_var 3) a_nil)))))))) ab_nil))))) (fun ds S Qd Ed hl h => by rw [F_joins_of_eq] at h; exact h)
theorem ok_meets_of : Ok P w K mg base 2 "meets_of" ["one", "other"] F_meets_of :=
  mk_ok (m := m_meets_of) (W.def_ 22 10 rfl rfl) sc_meets_of (fun _ _ _ _ _ _ us hl => match us, hl with | [_, _], _ => rfl) (fun cdv A outer s H E b hcdv hr => (ss_one (s_ret (x_callTy back_F call_tuple_of s_tuple (W.free 19 rfl) bb_tuple (ab_cons (XN.bor (x_sset rfl (W.free 18 rfl) (W.free 21 rfl) (XN.bor (x_lc2 [("mine", 2), ("yours", 3)] (vs1 := [3]) rfl sc_meets_of.nd (i_tup (x_var 0)) (by kernel_rfl) (tg_name 2) (by decide) (by decide) (tg_name 3) (by decide) (fun _ _ _ _ _ => (pg_name sc_meets_of.nd (i := 2) rfl (by first | exact .inl rfl | exact .inr rfl))) (fun _ _ _ _ _ => ts_nil) (fun _ _ _ _ _ => (i_tup (x_var 1))) (fun _ _ _ _ _ => (pg_name sc_meets_of.nd (i := 3) rfl (by first | exact .inl rfl | exact .inr rfl))) (fun _ _ _ _ _ => ts_nil) (fun _ _ _ _ _ => (x_fn (ok_met W) hr (by decide) passL (a_cons (x_var 2) (a_cons (x_var 3) a_nil)))))))) ab_nil))))) (fun ds S Qd Ed hl h => by rw [F_meets_of_eq] at h; exact h)
theorem ok_differences_of : Ok P w K mg base 2 "differences_of" ["one", "other"] F_differences_of :=
  mk_ok (m := m_differences_of) (W.def_ 23 11 rfl rfl) sc_differences_of (fun _ _ _ _ _ _ us hl => match us, hl with | [_, _], _ => rfl) (fun cdv A outer s H E b hcdv hr => (ss_one (s_ret (x_callTy back_F call_tuple_of s_tuple (W.free 19 rfl) bb_tuple (ab_cons (XN.bor (x_sset rfl (W.free 18 rfl) (W.free 21 rfl) (XN.bor (x_lc2 [("mine", 2), ("yours", 3)] (vs1 := [3]) rfl sc_differences_of.nd (i_tup (x_var 0)) (by kernel_rfl) (tg_name 2) (by decide) (by decide) (tg_name 3) (by decide) (fun _ _ _ _ _ => (pg_name sc_differences_of.nd (i := 2) rfl (by first | exact .inl rfl | exact .inr rfl))) (fun _ _ _ _ _ => ts_nil) (fun _ _ _ _ _ => (i_tup (x_var 1))) (fun _ _ _ _ _ => (pg_name sc_differences_of.nd (i := 3) rfl (by first | exact .inl rfl | exact .inr rfl))) (fun _ _ _ _ _ => ts_nil) (fun _ _ _ _ _ => (x_fn (ok_less W) hr (by decide) passL (a_cons (x_var 2) (a_cons (x_var 3) a_nil)))))))) ab_nil))))) (fun ds S Qd Ed hl h => by rw [F_differences_of_eq] at h; exact h)
theorem ok_is_closed_down : Ok P w K mg base 3 "is_closed_down" ["family"] F_is_closed_down :=
  mk_ok (m := m_is_closed_down) (W.def_ 24 12 rfl rfl) sc_is_closed_down (fun _ _ _ _ _ _ us hl => match us, hl with | [_], _ => rfl) (fun cdv A outer s H E b hcdv hr => (ss_one (s_ret (x_callB back_F (cr_all rfl) s_all (W.free 26 rfl) bb_all (ab_cons (XN.bor (x_lc [("one", 1)] rfl sc_is_closed_down.nd (i_tup (x_fn (ok_every_set W) hr (by decide) passB (a_cons x_int a_nil))) (by kernel_rfl) (tg_name 1) (by decide) (fun _ _ _ _ _ => (pg_name sc_is_closed_down.nd (i := 1) rfl (by first | exact .inl rfl | exact .inr rfl))) (fun _ _ _ _ _ => (ts_one (t_val (XE.bor (x_callB back_F (cr_any rfl) s_any (W.free 25 rfl) bb_any (ab_cons (XN.bor (x_lc [("other", 2)] rfl sc_is_closed_down.nd (i_tup (x_var 0)) (by kernel_rfl) (tg_name 2) (by decide) (fun _ _ _ _ _ => (pg_name sc_is_closed_down.nd (i := 2) rfl (by first | exact .inl rfl | exact .inr rfl))) (fun _ _ _ _ _ => ts_nil) (fun _ _ _ _ _ => (x_fn (ok_is_in W) hr (by decide) passL (a_cons (x_var 1) (a_cons (x_var 2) a_nil)))))) ab_nil)))))) (fun _ _ _ _ _ => (x_in hr (XE.bor (x_var 1)) (XE.bor (x_var 0)))))) ab_nil))))) (fun ds S Qd Ed hl h => by rw [F_is_closed_down_eq] at h; exact h)
theorem ok_need_letter : Ok P w K mg base 1 "need_letter" ["letters", "value"] F_need_letter :=
  mk_ok (m := m_need_letter) (W.def_ 27 13 rfl rfl) sc_need_letter (fun _ _ _ _ _ _ us hl => match us, hl with | [_, _], _ => rfl) (fun cdv A outer s H E b hcdv hr => (ss_one (s_if (XW.t (w_or (t_not (t_val (XE.bor (x_callB back_F call_isi s_isi (W.free 2 rfl) bb_isinstance (ab_cons (XE.bor (x_var 1)) (ab_cons (XE.bor (x_ty (W.free 5 rfl) bb_str)) ab_nil)))))) (w_or (t_ne hr (XE.bor (x_callB back_F call_len s_len (W.free 28 rfl) bb_len (ab_cons (XE.bor (x_var 1)) ab_nil))) (XE.bor x_int)) (w_or1 (t_nin hr (XE.bor (x_var 1)) (XE.bor (x_slice (XE.bor (x_gstr' (W.str 6 rfl))) o_non (o_som (XE.bor (x_var 0)))))))))) (ss_one (s_raise rfl takeB (W.exc 29 30 rfl rfl))) ss_nil))) (fun ds S Qd Ed hl h => by rw [F_need_letter_eq] at h; exact h)
theorem ok_squeezed_by : Ok P w K mg base 2 "squeezed_by" ["family", "letter"] F_squeezed_by :=
  mk_ok (m := m_squeezed_by) (W.def_ 31 14 rfl rfl) sc_squeezed_by (fun _ _ _ _ _ _ us hl => match us, hl with | [_, _], _ => rfl) (fun cdv A outer s H E b hcdv hr => (ss_cons (s_setN 2 sc_squeezed_by.nd (x_lst a_nil)) (ss_cons (s_for ownB rfl (i_tup (x_var 0)) (pg_name sc_squeezed_by.nd (i := 3) rfl (by first | exact .inl rfl | exact .inr rfl)) (tg_name 3) (ss_cons (s_set 4 sc_squeezed_by.nd (x_fn (ok_less W) hr (by decide) passB (a_cons (x_var 3) (a_cons (x_var 1) a_nil)))) (ss_one (s_app 2 (pv 2) (x_ife (t_in hr (XE.bor (x_var 4)) (XE.bor (x_var 0))) (x_var 3) (x_var 4)))))) (ss_one (s_ret (x_callTy back_F call_tuple_of s_tuple (W.free 19 rfl) bb_tuple (ab_cons (XN.bor (x_callB back_N cr_sortedS s_sorted (W.free 18 rfl) bb_sorted (ab_cons (x_varB 2) ab_nil))) ab_nil))))))) (fun ds S Qd Ed hl h => by rw [F_squeezed_by_eq] at h; exact h)
theorem ok_picks : Ok P w K mg base 3 "picks" ["family", "one"] F_picks :=
  mk_ok (m := m_picks) (W.def_ 32 15 rfl rfl) sc_picks (fun _ _ _ _ _ _ us hl => match us, hl with | [_, _], _ => rfl) (fun cdv A outer s H E b hcdv hr => (ss_cons (s_set 2 sc_picks.nd (XN.stay (x_lc [("other", 3)] rfl sc_picks.nd (i_tup (x_var 0)) (by kernel_rfl) (tg_name 3) (by decide) (fun _ _ _ _ _ => (pg_name sc_picks.nd (i := 3) rfl (by first | exact .inl rfl | exact .inr rfl))) (fun _ _ _ _ _ => ts_nil) (fun _ _ _ _ _ => (x_fn (ok_met W) hr (by decide) passL (a_cons (x_var 1) (a_cons (x_var 3) a_nil))))))) (ss_one (s_ret (x_callB back_F (cr_all rfl) s_all (W.free 26 rfl) bb_all (ab_cons (XN.bor (x_lc [("part", 4)] rfl sc_picks.nd (i_tup (x_fn (ok_every_set W) hr (by decide) passB (a_cons x_int a_nil))) (by kernel_rfl) (tg_name 4) (by decide) (fun _ _ _ _ _ => (pg_name sc_picks.nd (i := 4) rfl (by first | exact .inl rfl | exact .inr rfl))) (fun _ _ _ _ _ => (ts_one (t_val (XE.bor (x_fn (ok_is_in W) hr (by decide) passL (a_cons (x_var 4) (a_cons (x_var 1) a_nil))))))) (fun _ _ _ _ _ => (x_in hr (XE.bor (x_var 4)) (XE.bor (x_var 2)))))) ab_nil)))))) (fun ds S Qd Ed hl h => by rw [F_picks_eq] at h; exact h)
theorem ok_word_of : Ok P w K mg base 1 "word_of" ["one"] F_word_of :=
  mk_ok (m := m_word_of) (W.def_ 33 16 rfl rfl) sc_word_of (fun _ _ _ _ _ _ us hl => match us, hl with | [_], _ => rfl) (fun cdv A outer s H E b hcdv hr => (ss_one (s_ret (x_ife (t_ne hr (XE.bor (x_var 0)) (XE.bor x_str)) (x_var 0) x_str)))) (fun ds S Qd Ed hl h => by rw [F_word_of_eq] at h; exact h)
theorem okn_Bench_len : ∃ fd, FnOk P w K mg base (L2.CX P w) 1 (He.ma K (He.ga K "Bench") "__len__") fd ["self"] (SpT K (["self"] : List Str).length F_Bench_len) ∧ L2.Binds K fd ["self"] [] :=
  mk_okn (m := m_Bench_len) (W.c.def_ 17 rfl) sc_Bench_len (fun _ _ _ _ _ _ us hl => match us, hl with | [_], _ => rfl) (fun cdv A outer s H E b hr => (ss_one (s_ret (x_callB back_F call_len s_lenM (W.free 28 rfl) bb_len (ab_cons (XE.bor (x_fld (W.clsF 34 rfl) (W.noatF 35 rfl) (x_var 0))) ab_nil))))) (fun ds S Qd Ed hl h => by rw [F_Bench_len_eq] at h; exact h)
theorem ok_Bench_len : OkM P w K mg base 1 (He.ma K (He.ga K "Bench") "__len__") (needN 1 F_Bench_len) := okm_of (okn_Bench_len W)
theorem okn_Bench_getitem : ∃ fd, FnOk P w K mg base (L2.CX P w) 2 (He.ma K (He.ga K "Bench") "__getitem__") fd ["self", "index"] (SpT K (["self", "index"] : List Str).length F_Bench_getitem) ∧ L2.Binds K fd ["self", "index"] [] :=
  mk_okn (m := m_Bench_getitem) (W.c.def_ 18 rfl) sc_Bench_getitem (fun _ _ _ _ _ _ us hl => match us, hl with | [_, _], _ => rfl) (fun cdv A outer s H E b hr => (ss_cons (s_if (t_not (t_val (XE.bor (x_fn (ok_is_number W) hr (by decide) passB (a_cons (x_var 1) (a_cons x_int (a_cons (x_sub (XE.bor (x_callB back_F call_len s_len (W.free 28 rfl) bb_len (ab_cons (XE.bor (x_fld (W.clsF 34 rfl) (W.noatF 36 rfl) (x_var 0))) ab_nil))) (XE.bor x_int)) a_nil))))))) (ss_one (s_raise rfl takeB (W.exc 37 38 rfl rfl))) ss_nil) (ss_one (s_ret (x_ix (XE.bor (x_fld (W.clsF 34 rfl) (W.noatF 36 rfl) (x_var 0))) (XE.bor (x_var 1))))))) (fun ds S Qd Ed hl h => by rw [F_Bench_getitem_eq] at h; exact h)
theorem ok_Bench_getitem : OkM P w K mg base 2 (He.ma K (He.ga K "Bench") "__getitem__") (needN 2 F_Bench_getitem) := okm_of (okn_Bench_getitem W)
theorem ok__law_source : Ok P w K mg base 6 "_law_source" ["_law_script", "_law_k"] F__law_source :=
  mk_ok (m := m__law_source) (W.def_ 39 19 rfl rfl) sc__law_source (fun _ _ _ _ _ _ us hl => match us, hl with | [_, _], _ => rfl) (fun cdv A outer s H E b hcdv hr => (ss_cons (s_set 2 sc__law_source.nd x_int) (ss_cons (s_if (t_lt (XE.bor (x_var 1)) (XE.bor (x_callB back_F call_len s_len (W.free 28 rfl) bb_len (ab_cons (XE.bor (x_var 0)) ab_nil)))) (ss_one (s_set 2 sc__law_source.nd (x_callB back_F call_abs s_abs (W.free 40 rfl) bb_abs (ab_cons (XE.bor (x_callTy back_F (call_int1.or call_int_str) s_int1 (W.free 1 rfl) bb_int (ab_cons (XE.bor (x_ix (XE.bor (x_var 0)) (XE.bor (x_var 1)))) ab_nil))) ab_nil)))) ss_nil) (ss_cons (s_if (t_lt (XE.bor (x_var 2)) (XE.bor (x_pow (XE.bor x_int) (XE.bor x_int)))) (ss_one (s_retSrc (x_lst (a_cons x_int (a_cons (x_add (XE.bor x_int) (XE.bor (x_mod (XE.bor (x_callTy back_F (call_int1.or call_int_str) s_int1 (W.free 1 rfl) bb_int (ab_cons (XE.bor (x_add (XE.bor (x_mul (XE.bor (x_var 2)) (XE.bor x_int))) (XE.bor (x_mul (XE.bor x_int) (XE.bor (x_var 1)))))) ab_nil))) (XE.bor x_int)))) a_nil))))) ss_nil) (ss_one (s_retSrc (x_lst (a_cons (x_var 2) (a_cons (x_add (XE.bor x_int) (XE.bor (x_mod (XE.bor (x_callTy back_F (call_int1.or call_int_str) s_int1 (W.free 1 rfl) bb_int (ab_cons (XE.bor (x_add (XE.bor (x_var 2)) (XE.bor (x_var 1)))) ab_nil))) (XE.bor x_int)))) a_nil))))))))) (fun ds S Qd Ed hl h => by rw [F__law_source_eq] at h; exact h)
theorem ok__law_draw : Ok P w K mg base 6 "_law_draw" ["_law_source_here", "_law_many"] F__law_draw :=
  mk_ok (m := m__law_draw) (W.def_ 41 20 rfl rfl) sc__law_draw (fun _ _ _ _ _ _ us hl => match us, hl with | [_, _], _ => rfl) (fun cdv A outer s H E b hcdv hr => (ss_cons (s_if (t_gt (XE.bor (x_ix (XE.bor (x_var 0)) (XE.bor x_int))) (XE.bor x_int)) (ss_cons (s_set 2 sc__law_draw.nd (x_mod (XE.bor (x_callTy back_F (call_int1.or call_int_str) s_int1 (W.free 1 rfl) bb_int (ab_cons (XE.bor (x_ix (XE.bor (x_var 0)) (XE.bor x_int))) ab_nil))) (XE.bor (x_var 1)))) (ss_cons (s_put (x_fdiv (XE.bor (x_ix (XE.bor (x_var 0)) (XE.bor x_int))) (XE.bor (x_var 1))) (x_var 0) x_int) (ss_one (s_ret (x_var 2))))) ss_nil) (ss_cons (s_put (x_mod (XE.bor (x_callTy back_F (call_int1.or call_int_str) s_int1 (W.free 1 rfl) bb_int (ab_cons (XE.bor (x_mul (XE.bor (x_ix (XE.bor (x_var 0)) (XE.bor x_int))) (XE.bor x_int))) ab_nil))) (XE.bor x_int)) (x_var 0) x_int) (ss_one (s_ret (x_mod (XE.bor (x_callTy back_F (call_int1.or call_int_str) s_int1 (W.free 1 rfl) bb_int (ab_cons (XE.bor (x_fdiv (XE.bor (x_mod (XE.bor (x_callTy back_F (call_int1.or call_int_str) s_int1 (W.free 1 rfl) bb_int (ab_cons (XE.bor (x_mul (XE.bor (x_ix (XE.bor (x_var 0)) (XE.bor x_int))) (XE.bor (x_ix (XE.bor (x_var 0)) (XE.bor x_int))))) ab_nil))) (XE.bor x_int))) (XE.bor x_int))) ab_nil))) (XE.bor (x_var 1)))))))) (fun ds S Qd Ed hl h => by rw [F__law_draw_eq] at h; exact h)
theorem ok__law_of : Ok P w K mg base 10 "_law_of" ["_law_source_here", "_law_items"] F__law_of :=
  mk_ok (m := m__law_of) (W.def_ 42 21 rfl rfl) sc__law_of (fun _ _ _ _ _ _ us hl => match us, hl with | [_, _], _ => rfl) (fun cdv A outer s H E b hcdv hr => (ss_one (s_ret (x_ix (XE.bor (x_var 1)) (XE.bor (x_fn (ok__law_draw W) hr (by decide) passB (a_cons (x_var 0) (a_cons (x_callB back_F call_len s_len (W.free 28 rfl) bb_len (ab_cons (XE.bor (x_var 1)) ab_nil)) a_nil)))))))) (fun ds S Qd Ed hl h => by rw [F__law_of_eq] at h; exact h)
theorem okn_Bench_contains : ∃ fd, FnOk P w K mg base (L2.CX P w) 1 (He.ma K (He.ga K "Bench") "__contains__") fd ["self", "value"] (SpT K (["self", "value"] : List Str).length F_Bench_contains) ∧ L2.Binds K fd ["self", "value"] [] :=
  mk_okn (m := m_Bench_contains) (W.c.def_ 22 rfl) sc_Bench_contains (fun _ _ _ _ _ _ us hl => match us, hl with | [_, _], _ => rfl) (fun cdv A outer s H E b hr => (ss_one (s_ret (x_and (x_callB back_F call_isi s_isi (W.free 2 rfl) bb_isinstance (ab_cons (XE.bor (x_var 1)) (ab_cons (XE.bor (x_ty (W.free 5 rfl) bb_str)) ab_nil))) (x_one (x_in hr (XE.bor (x_var 1)) (XE.bor (x_fld (W.clsF 34 rfl) (W.noatF 36 rfl) (x_var 0))))))))) (fun ds S Qd Ed hl h => by rw [F_Bench_contains_eq] at h; exact h)
theorem ok_Bench_contains : OkM P w K mg base 1 (He.ma K (He.ga K "Bench") "__contains__") (needN 2 F_Bench_contains) := okm_of (okn_Bench_contains W)
theorem ok__law_join : Ok P w K mg base 5 "_law_join" ["_law_one", "_law_other"] F__law_join :=
  mk_ok (m := m__law_join) (W.def_ 43 23 rfl rfl) sc__law_join (fun _ _ _ _ _ _ us hl => match us, hl with | [_, _], _ => rfl) (fun cdv A outer s H E b hcdv hr => (ss_one (s_ret (x_join (XE.bor x_str) (XN.bor (x_lc [("_law_letter", 2)] rfl sc__law_join.nd (i_str (XE.bor x_str)) (by kernel_rfl) (tg_name 2) (by decide) (fun _ _ _ _ _ => (pg_name sc__law_join.nd (i := 2) rfl (by first | exact .inl rfl | exact .inr rfl))) (fun _ _ _ _ _ => (ts_one (t_in hr (XE.bor (x_var 2)) (XE.bor (x_add (XE.bor (x_var 0)) (XE.bor (x_var 1))))))) (fun _ _ _ _ _ => (x_var 2)))))))) (fun ds S Qd Ed hl h => by rw [F__law_join_eq] at h; exact h)
theorem ok__law_meet : Ok P w K mg base 5 "_law_meet" ["_law_one", "_law_other"] F__law_meet :=
  mk_ok (m := m__law_meet) (W.def_ 44 24 rfl rfl) sc__law_meet (fun _ _ _ _ _ _ us hl => match us, hl with | [_, _], _ => rfl) (fun cdv A outer s H E b hcdv hr => (ss_one (s_ret (x_join (XE.bor x_str) (XN.bor (x_lc [("_law_letter", 2)] rfl sc__law_meet.nd (i_str (XE.bor (x_var 0))) (by kernel_rfl) (tg_name 2) (by decide) (fun _ _ _ _ _ => (pg_name sc__law_meet.nd (i := 2) rfl (by first | exact .inl rfl | exact .inr rfl))) (fun _ _ _ _ _ => (ts_one (t_in hr (XE.bor (x_var 2)) (XE.bor (x_var 1))))) (fun _ _ _ _ _ => (x_var 2)))))))) (fun ds S Qd Ed hl h => by rw [F__law_meet_eq] at h; exact h)
theorem ok__law_less : Ok P w K mg base 5 "_law_less" ["_law_one", "_law_other"] F__law_less :=
  mk_ok (m := m__law_less) (W.def_ 45 25 rfl rfl) sc__law_less (fun _ _ _ _ _ _ us hl => match us, hl with | [_, _], _ => rfl) (fun cdv A outer s H E b hcdv hr => (ss_one (s_ret (x_join (XE.bor x_str) (XN.bor (x_lc [("_law_letter", 2)] rfl sc__law_less.nd (i_str (XE.bor (x_var 0))) (by kernel_rfl) (tg_name 2) (by decide) (fun _ _ _ _ _ => (pg_name sc__law_less.nd (i := 2) rfl (by first | exact .inl rfl | exact .inr rfl))) (fun _ _ _ _ _ => (ts_one (t_nin hr (XE.bor (x_var 2)) (XE.bor (x_var 1))))) (fun _ _ _ _ _ => (x_var 2)))))))) (fun ds S Qd Ed hl h => by rw [F__law_less_eq] at h; exact h)
theorem ok__law_sets : Ok P w K mg base 6 "_law_sets" ["_law_letters"] F__law_sets :=
  mk_ok (m := m__law_sets) (W.def_ 46 26 rfl rfl) sc__law_sets (fun _ _ _ _ _ _ us hl => match us, hl with | [_], _ => rfl) (fun cdv A outer s H E b hcdv hr => (ss_cons (s_set 1 sc__law_sets.nd (XN.stay (x_lst (a_cons x_str a_nil)))) (ss_cons (s_for ownB rfl (i_str (XE.bor (x_slice (XE.bor x_str) o_non (o_som (XE.bor (x_var 0)))))) (pg_name sc__law_sets.nd (i := 2) rfl (by first | exact .inl rfl | exact .inr rfl)) (tg_name 2) (ss_one (s_set 1 sc__law_sets.nd (XN.stay (x_cat (XE.bor (x_var 1)) (XN.bor (x_lc [("_law_one", 3)] rfl sc__law_sets.nd (i_lst (x_var 1)) (by kernel_rfl) (tg_name 3) (by decide) (fun _ _ _ _ _ => (pg_name sc__law_sets.nd (i := 3) rfl (by first | exact .inl rfl | exact .inr rfl))) (fun _ _ _ _ _ => ts_nil) (fun _ _ _ _ _ => (x_add (XE.bor (x_var 3)) (XE.bor (x_var 2))))))))))) (ss_one (s_ret (XN.stay (x_callB back_N cr_sortedS s_sorted (W.free 18 rfl) bb_sorted (ab_cons (XE.bor (x_var 1)) ab_nil)))))))) (fun ds S Qd Ed hl h => by rw [F__law_sets_eq] at h; exact h)
theorem okn_Bench_init : ∃ fd, FnOk P w K mg base (L2.CX P w) 3 (He.ma K (He.ga K "Bench") "__init__") fd ["self", "letters"] (SpT K (["self", "letters"] : List Str).length F_Bench_init) ∧ L2.Binds K fd ["self", "letters"] [] :=
  mk_okn (m := m_Bench_init) (W.c.def_ 27 rfl) sc_Bench_init (fun _ _ _ _ _ _ us hl => match us, hl with | [_, _], _ => rfl) (fun cdv A outer s H E b hr => (ss_cons (s_drop (x_fn (ok_need_letters W) hr (by decide) passB (a_cons (x_var 1) (a_cons x_int a_nil)))) (ss_cons (s_fld (W.clsF 34 rfl) (W.noatF 47 rfl) (x_var 0) (x_var 1)) (ss_cons (s_fld (W.clsF 34 rfl) (W.noatF 36 rfl) (x_var 0) (x_tup a_nil)) (ss_one (s_fld (W.clsF 34 rfl) (W.noatF 35 rfl) (x_var 0) (XN.sto (x_lst a_nil)))))))) (fun ds S Qd Ed hl h => by rw [F_Bench_init_eq] at h; exact h)
theorem ok_Bench_init : OkM P w K mg base 3 (He.ma K (He.ga K "Bench") "__init__") (needN 2 F_Bench_init) := okm_of (okn_Bench_init W)
theorem okn_Bench_eq : ∃ fd, FnOk P w K mg base (L2.CX P w) 7 (He.ma K (He.ga K "Bench") "__eq__") fd ["self", "other"] (SpT K (["self", "other"] : List Str).length F_Bench_eq) ∧ L2.Binds K fd ["self", "other"] [] :=
  mk_okn (m := m_Bench_eq) (W.c.def_ 28 rfl) sc_Bench_eq (fun _ _ _ _ _ _ us hl => match us, hl with | [_, _], _ => rfl) (fun cdv A outer s H E b hr => (ss_one (s_ret (x_and (x_callB back_F call_isi (s_isiC (W.clsF 34 rfl) (exAll (WEx W) 0 rfl)) (W.free 2 rfl) bb_isinstance (ab_cons (XE.bor (x_var 1)) (ab_cons (XE.bor (x_glo (W.glo 48 rfl))) ab_nil))) (x_one (x_eq hr (XE.bor (x_tup (a_cons (x_fld (W.clsF 34 rfl) (W.noatF 47 rfl) (x_var 0)) (a_cons (x_fld (W.clsF 34 rfl) (W.noatF 36 rfl) (x_var 0)) a_nil)))) (XE.bor (x_tup (a_cons (x_fld (W.clsF 34 rfl) (W.noatF 47 rfl) (x_var 1)) (a_cons (x_fld (W.clsF 34 rfl) (W.noatF 36 rfl) (x_var 1)) a_nil)))))))))) (fun ds S Qd Ed hl h => by rw [F_Bench_eq_eq] at h; exact h)
theorem ok_Bench_eq : OkM P w K mg base 7 (He.ma K (He.ga K "Bench") "__eq__") (needN 2 F_Bench_eq) := okm_of (okn_Bench_eq W)
theorem ok__law_within : Ok P w K mg base 11 "_law_within" ["_law_one", "_law_other"] F__law_within :=
  mk_ok (m := m__law_within) (W.def_ 49 29 rfl rfl) sc__law_within (fun _ _ _ _ _ _ us hl => match us, hl with | [_, _], _ => rfl) (fun cdv A outer s H E b hcdv hr => (ss_one (s_ret (x_eq hr (XN.bor (x_lc [("_law_letter", 2)] rfl sc__law_within.nd (i_str (XE.bor (x_var 0))) (by kernel_rfl) (tg_name 2) (by decide) (fun _ _ _ _ _ => (pg_name sc__law_within.nd (i := 2) rfl (by first | exact .inl rfl | exact .inr rfl))) (fun _ _ _ _ _ => (ts_one (t_nin hr (XE.bor (x_var 2)) (XE.bor (x_var 1))))) (fun _ _ _ _ _ => (x_var 2)))) (XN.bor (x_lst a_nil)))))) (fun ds S Qd Ed hl h => by rw [F__law_within_eq] at h; exact h)
theorem ok__law_made : Ok P w K mg base 11 "_law_made" ["_law_one", "_law_other", "_law_word_here"] F__law_made :=
  mk_ok (m := m__law_made) (W.def_ 50 30 rfl rfl) sc__law_made (fun _ _ _ _ _ _ us hl => match us, hl with | [_, _, _], _ => rfl) (fun cdv A outer s H E b hcdv hr => (ss_cons (s_setN 3 sc__law_made.nd (x_lst a_nil)) (ss_cons (s_for ownB rfl (i_tup (x_var 0)) (pg_name sc__law_made.nd (i := 4) rfl (by first | exact .inl rfl | exact .inr rfl)) (tg_name 4) (ss_one (s_for ownB rfl (i_tup (x_var 1)) (pg_name sc__law_made.nd (i := 5) rfl (by first | exact .inl rfl | exact .inr rfl)) (tg_name 5) (ss_one (s_if (t_eq hr (XE.bor (x_var 2)) (XE.bor x_str)) (ss_one (s_app 3 (pv 3) (x_fn (ok__law_join W) hr (by decide) passB (a_cons (x_var 4) (a_cons (x_var 5) a_nil))))) (ss_one (s_if (t_eq hr (XE.bor (x_var 2)) (XE.bor x_str)) (ss_one (s_app 3 (pv 3) (x_fn (ok__law_meet W) hr (by decide) passB (a_cons (x_var 4) (a_cons (x_var 5) a_nil))))) (ss_one (s_app 3 (pv 3) (x_fn (ok__law_less W) hr (by decide) passB (a_cons (x_var 4) (a_cons (x_var 5) a_nil)))))))))))) (ss_one (s_ret (x_callTy back_F call_tuple_of s_tuple (W.free 19 rfl) bb_tuple (ab_cons (XN.bor (x_sset rfl (W.free 18 rfl) (W.free 21 rfl) (x_varB 3))) ab_nil))))))) (fun ds S Qd Ed hl h => by rw [F__law_made_eq] at h; exact h)
theorem ok__law_is_down : Ok P w K mg base 9 "_law_is_down" ["_law_family"] F__law_is_down :=
  mk_ok (m := m__law_is_down) (W.def_ 51 31 rfl rfl) sc__law_is_down (fun _ _ _ _ _ _ us hl => match us, hl with | [_], _ => rfl) (fun cdv A outer s H E b hcdv hr => (ss_cons (s_for ownB rfl (i_tup (x_var 0)) (pg_name sc__law_is_down.nd (i := 1) rfl (by first | exact .inl rfl | exact .inr rfl)) (tg_name 1) (ss_one (s_for ownB rfl (i_str (XE.bor (x_var 1))) (pg_name sc__law_is_down.nd (i := 2) rfl (by first | exact .inl rfl | exact .inr rfl)) (tg_name 2) (ss_one (s_if (t_nin hr (XE.bor (x_fn (ok__law_less W) hr (by decide) passB (a_cons (x_var 1) (a_cons (x_var 2) a_nil)))) (XE.bor (x_var 0))) (ss_one (s_ret x_bl)) ss_nil))))) (ss_one (s_ret x_bl)))) (fun ds S Qd Ed hl h => by rw [F__law_is_down_eq] at h; exact h)
theorem ok__law_picks : Ok P w K mg base 15 "_law_picks" ["_law_family", "_law_one"] F__law_picks :=
  mk_ok (m := m__law_picks) (W.def_ 52 32 rfl rfl) sc__law_picks (fun _ _ _ _ _ _ us hl => match us, hl with | [_, _], _ => rfl) (fun cdv A outer s H E b hcdv hr => (ss_cons (s_set 2 sc__law_picks.nd (XN.stay (x_lc [("_law_other", 4)] rfl sc__law_picks.nd (i_tup (x_var 0)) (by kernel_rfl) (tg_name 4) (by decide) (fun _ _ _ _ _ => (pg_name sc__law_picks.nd (i := 4) rfl (by first | exact .inl rfl | exact .inr rfl))) (fun _ _ _ _ _ => ts_nil) (fun _ _ _ _ _ => (x_fn (ok__law_meet W) hr (by decide) passL (a_cons (x_var 1) (a_cons (x_var 4) a_nil))))))) (ss_cons (s_setLc 3 [("_law_part", 5)] rfl sc__law_picks.nd (sw_true rfl rfl rfl rfl) (i_lst (x_fn (ok__law_sets W) hr (by decide) passB (a_cons x_int a_nil))) (by kernel_rfl) (tg_name 5) (by decide) (fun _ _ _ _ _ => (pg_name sc__law_picks.nd (i := 5) rfl (by first | exact .inl rfl | exact .inr rfl))) (fun _ _ _ _ _ => (ts_one (t_val (XE.bor (x_fn (ok__law_within W) hr (by decide) passL (a_cons (x_var 5) (a_cons (x_var 1) a_nil))))))) (fun _ _ _ _ _ => (x_var 5))) (ss_one (s_ret (x_eq hr (XN.bor (x_lc [("_law_part", 5)] rfl sc__law_picks.nd (i_lst (x_var 3)) (by kernel_rfl) (tg_name 5) (by decide) (fun _ _ _ _ _ => (pg_name sc__law_picks.nd (i := 5) rfl (by first | exact .inl rfl | exact .inr rfl))) (fun _ _ _ _ _ => (ts_one (t_nin hr (XE.bor (x_var 5)) (XE.bor (x_var 2))))) (fun _ _ _ _ _ => (x_var 5)))) (XN.bor (x_lst a_nil)))))))) (fun ds S Qd Ed hl h => by rw [F__law_picks_eq] at h; exact h)
theorem okn_Bench_letters : ∃ fd, FnOk P w K mg base (L2.CX P w) 1 (recA "property" "Bench" "letters" K) fd ["self"] (SpT K (["self"] : List Str).length F_Bench_letters) ∧ L2.Binds K fd ["self"] [] :=
  mk_okn (m := m_Bench_letters) (W.y 0 _ rfl) sc_Bench_letters (fun _ _ _ _ _ _ us hl => match us, hl with | [_], _ => rfl) (fun cdv A outer s H E b hr => (ss_one (s_ret (x_fld (W.clsF 34 rfl) (W.noatF 47 rfl) (x_var 0))))) (fun ds S Qd Ed hl h => by rw [F_Bench_letters_eq] at h; exact h)
theorem ok_Bench_letters : OkM P w K mg base 1 (recA "property" "Bench" "letters" K) (needN 1 F_Bench_letters) := okm_of (okn_Bench_letters W)
theorem okn_Bench_family : ∃ fd, FnOk P w K mg base (L2.CX P w) 1 (recA "property" "Bench" "family" K) fd ["self"] (SpT K (["self"] : List Str).length F_Bench_family) ∧ L2.Binds K fd ["self"] [] :=
  mk_okn (m := m_Bench_family) (W.y 1 _ rfl) sc_Bench_family (fun _ _ _ _ _ _ us hl => match us, hl with | [_], _ => rfl) (fun cdv A outer s H E b hr => (ss_one (s_ret (x_fld (W.clsF 34 rfl) (W.noatF 36 rfl) (x_var 0))))) (fun ds S Qd Ed hl h => by rw [F_Bench_family_eq] at h; exact h)
theorem ok_Bench_family : OkM P w K mg base 1 (recA "property" "Bench" "family" K) (needN 1 F_Bench_family) := okm_of (okn_Bench_family W)
theorem okn_Bench_counts : ∃ fd, FnOk P w K mg base (L2.CX P w) 3 (recA "property" "Bench" "counts" K) fd ["self"] (SpT K (["self"] : List Str).length F_Bench_counts) ∧ L2.Binds K fd ["self"] [] :=
  mk_okn (m := m_Bench_counts) (W.y 2 _ rfl) sc_Bench_counts (fun _ _ _ _ _ _ us hl => match us, hl with | [_], _ => rfl) (fun cdv A outer s H E b hr => (ss_cons (s_set 1 sc_Bench_counts.nd (x_fld (W.clsF 34 rfl) (W.noatF 36 rfl) (x_var 0))) (ss_one (s_ret (x_tup (a_cons (x_callB back_F call_len s_len (W.free 28 rfl) bb_len (ab_cons (XE.bor (x_fn (ok_joins_of W) hr (by decide) passB (a_cons (x_var 1) (a_cons (x_var 1) a_nil)))) ab_nil)) (a_cons (x_callB back_F call_len s_len (W.free 28 rfl) bb_len (ab_cons (XE.bor (x_fn (ok_meets_of W) hr (by decide) passB (a_cons (x_var 1) (a_cons (x_var 1) a_nil)))) ab_nil)) (a_cons (x_callB back_F call_len s_len (W.free 28 rfl) bb_len (ab_cons (XE.bor (x_fn (ok_differences_of W) hr (by decide) passB (a_cons (x_var 1) (a_cons (x_var 1) a_nil)))) ab_nil)) a_nil)))))))) (fun ds S Qd Ed hl h => by rw [F_Bench_counts_eq] at h; exact h)
theorem ok_Bench_counts : OkM P w K mg base 3 (recA "property" "Bench" "counts" K) (needN 1 F_Bench_counts) := okm_of (okn_Bench_counts W)
theorem okn_Bench_bool : ∃ fd, FnOk P w K mg base (L2.CX P w) 4 (He.ma K (He.ga K "Bench") "__bool__") fd ["self"] (SpT K (["self"] : List Str).length F_Bench_bool) ∧ L2.Binds K fd ["self"] [] :=
  mk_okn (m := m_Bench_bool) (W.c.def_ 33 rfl) sc_Bench_bool (fun _ _ _ _ _ _ us hl => match us, hl with | [_], _ => rfl) (fun cdv A outer s H E b hr => (ss_one (s_ret (x_callTy back_F call_bool1 s_bool1 (W.free 3 rfl) bb_bool (ab_cons (XE.bor (x_fn (ok_is_closed_down W) hr (by decide) passB (a_cons (x_fld (W.clsF 34 rfl) (W.noatF 36 rfl) (x_var 0)) a_nil))) ab_nil))))) (fun ds S Qd Ed hl h => by rw [F_Bench_bool_eq] at h; exact h)
theorem ok_Bench_bool : OkM P w K mg base 4 (He.ma K (He.ga K "Bench") "__bool__") (needN 1 F_Bench_bool) := okm_of (okn_Bench_bool W)
theorem okg_Bench_lines : ∃ fd, GFn P w K mg base 4 (He.ma K (He.ga K "Bench") "lines") fd ["self"] (SpGn K (["self"] : List Str).length F_Bench_lines) ∧ L2.Binds K fd ["self"] [] :=
  mk_gfn (m := m_Bench_lines) (W.c.def_ 34 rfl) sc_Bench_lines (fun _ _ _ _ _ _ us hl => match us, hl with | [_], _ => rfl) (fun cdv A outer s H E pn b hr => (gn_cons (E := E) (s_set 1 sc_Bench_lines.nd (x_fld (W.clsF 34 rfl) (W.noatF 36 rfl) (x_var 0))) (gn_yfor (E := E) ownG rfl (i_tup (x_var 1)) (pg_name sc_Bench_lines.nd (i := 2) rfl (by first | exact .inl rfl | exact .inr rfl)) (tg_name 2) (x_joined (.cons (x_fmtv (x_fn (ok_word_of W) hr (by decide) passG (a_cons (x_var 2) a_nil))) (.cons x_str (.cons (x_fmtv (x_ife (t_val (XE.bor (x_fn (ok_picks W) hr (by decide) passG (a_cons (x_var 1) (a_cons (x_var 2) a_nil))))) x_str x_str)) .nil))))))) (fun ds S Qd Ed hl h => by rw [F_Bench_lines_eq] at h; exact h)
theorem ok__law_bench_shows : Ok P w K mg base 19 "_law_bench_shows" ["_law_bench", "_law_letters", "_law_family", "_law_many"] F__law_bench_shows :=
  mk_ok (m := m__law_bench_shows) (W.def_ 53 35 rfl rfl) sc__law_bench_shows (fun _ _ _ _ _ _ us hl => match us, hl with | [_, _, _, _], _ => rfl) (fun cdv A outer s H E b hcdv hr => (ss_cons (s_if (XW.t (w_or (t_ne hr (XE.bor (x_prop (W.clsF 34 rfl) (propB_ok (exAll (WEx W) 1 rfl)) (okn_Bench_letters W) rfl hr (by decide) (x_var 0))) (XE.bor (x_var 1))) (w_or (t_ne hr (XE.bor (x_prop (W.clsF 34 rfl) (propB_ok (exAll (WEx W) 2 rfl)) (okn_Bench_family W) rfl hr (by decide) (x_var 0))) (XE.bor (x_var 2))) (w_or1 (t_ne hr (XE.bor (x_lenI (opmB_ok (exAll (WEx W) 3 rfl)) (ok_Bench_len W) hr (by decide) passB (W.free 28 rfl) (x_var 0))) (XE.bor (x_var 3))))))) (ss_one (s_ret x_bl)) ss_nil) (ss_cons (s_set 4 sc__law_bench_shows.nd (x_tup (a_cons (x_callB back_F call_len s_len (W.free 28 rfl) bb_len (ab_cons (XE.bor (x_fn (ok__law_made W) hr (by decide) passB (a_cons (x_var 2) (a_cons (x_var 2) (a_cons x_str a_nil))))) ab_nil)) (a_cons (x_callB back_F call_len s_len (W.free 28 rfl) bb_len (ab_cons (XE.bor (x_fn (ok__law_made W) hr (by decide) passB (a_cons (x_var 2) (a_cons (x_var 2) (a_cons x_str a_nil))))) ab_nil)) a_nil)))) (ss_cons (s_set 4 sc__law_bench_shows.nd (x_add (XE.bor (x_var 4)) (XE.bor (x_tup (a_cons (x_callB back_F call_len s_len (W.free 28 rfl) bb_len (ab_cons (XE.bor (x_fn (ok__law_made W) hr (by decide) passB (a_cons (x_var 2) (a_cons (x_var 2) (a_cons x_str a_nil))))) ab_nil)) a_nil))))) (ss_cons (s_if (XW.t (w_or (t_ne hr (XE.bor (x_prop (W.clsF 34 rfl) (propB_ok (exAll (WEx W) 4 rfl)) (okn_Bench_counts W) rfl hr (by decide) (x_var 0))) (XE.bor (x_var 4))) (w_or1 (t_ne hr (XE.bor (x_boolI (opmB_ok (exAll (WEx W) 5 rfl)) (ok_Bench_bool W) hr (by decide) passB (W.free 3 rfl) (x_var 0))) (XE.bor (x_fn (ok__law_is_down W) hr (by decide) passB (a_cons (x_var 2) a_nil))))))) (ss_one (s_ret x_bl)) ss_nil) (ss_cons (s_if (t_ne hr (XN.bor (x_lc [("_law_index", 9)] rfl sc__law_bench_shows.nd (i_rng1 (W.free 54 rfl) (ab_cons (XE.bor (x_callB back_F call_len s_len (W.free 28 rfl) bb_len (ab_cons (XE.bor (x_var 2)) ab_nil))) ab_nil)) (by kernel_rfl) (tg_name 9) (by decide) (fun _ _ _ _ _ => (pg_name sc__law_bench_shows.nd (i := 9) rfl (by first | exact .inl rfl | exact .inr rfl))) (fun _ _ _ _ _ => ts_nil) (fun _ _ _ _ _ => (x_ixI (opmB_ok (exAll (WEx W) 6 rfl)) (exAll (WEx W) 7 rfl) (ok_Bench_getitem W) hr (by decide) passL (x_var 0) (x_var 9))))) (XN.bor (x_callTy back_N call_list_of s_list (W.free 55 rfl) bb_list (ab_cons (XE.bor (x_var 2)) ab_nil)))) (ss_one (s_ret x_bl)) ss_nil) (ss_cons (s_for ownB rfl (i_lst (XN.stay (x_cat (XE.bor (x_fn (ok__law_sets W) hr (by decide) passB (a_cons x_int a_nil))) (XN.bor (x_lst (a_cons x_non (a_cons x_int (a_cons x_str (a_cons (x_tup (a_cons x_str a_nil)) a_nil))))))))) (pg_name sc__law_bench_shows.nd (i := 5) rfl (by first | exact .inl rfl | exact .inr rfl)) (tg_name 5) (ss_one (s_if (t_ne hr (XE.bor (x_inI (opmB_ok (exAll (WEx W) 8 rfl)) (ok_Bench_contains W) hr (by decide) passB (x_var 5) (x_var 0))) (XE.bor (x_in hr (XE.bor (x_var 5)) (XN.bor (x_callTy back_N call_list_of s_list (W.free 55 rfl) bb_list (ab_cons (XE.bor (x_var 2)) ab_nil)))))) (ss_one (s_ret x_bl)) ss_nil))) (ss_cons (s_setN 6 sc__law_bench_shows.nd (x_lst a_nil)) (ss_cons (s_for ownB rfl (i_tup (x_var 2)) (pg_name sc__law_bench_shows.nd (i := 7) rfl (by first | exact .inl rfl | exact .inr rfl)) (tg_name 7) (ss_cons (s_set 8 sc__law_bench_shows.nd (x_ife (t_val (XE.bor (x_fn (ok__law_picks W) hr (by decide) passB (a_cons (x_var 2) (a_cons (x_var 7) a_nil))))) x_str x_str)) (ss_one (s_app 6 (pv 6) (x_add (XE.bor (x_ife (t_ne hr (XE.bor (x_var 7)) (XE.bor x_str)) (x_var 7) x_str)) (XE.bor (x_var 8))))))) (ss_one (s_ret (x_eq hr (XN.bor (x_listG (W.clsF 34 rfl) (W.methF 56 rfl) (okg_Bench_lines W) hr (by decide) (W.free 55 rfl) (x_var 0))) (x_varB 6))))))))))))) (fun ds S Qd Ed hl h => by rw [F__law_bench_shows_eq] at h; exact h)
theorem okn_Bench_keep : ∃ fd, FnOk P w K mg base (L2.CX P w) 1 (He.ma K (He.ga K "Bench") "keep") fd ["self", "now"] (SpT K (["self", "now"] : List Str).length F_Bench_keep) ∧ L2.Binds K fd ["self", "now"] [] :=
  mk_okn (m := m_Bench_keep) (W.c.def_ 36 rfl) sc_Bench_keep (fun _ _ _ _ _ _ us hl => match us, hl with | [_, _], _ => rfl) (fun cdv A outer s H E b hr => (ss_cons (s_if (t_ge (XE.bor (x_callB back_F call_len s_lenM (W.free 28 rfl) bb_len (ab_cons (XE.bor (x_fld (W.clsF 34 rfl) (W.noatF 35 rfl) (x_var 0))) ab_nil))) (XE.bor (x_gint' (W.int 57 rfl)))) (ss_one s_never) ss_nil) (ss_cons (s_set 2 sc_Bench_keep.nd (x_fld (W.clsF 34 rfl) (W.noatF 36 rfl) (x_var 0))) (ss_cons (s_appM (x_fld (W.clsF 34 rfl) (W.noatF 35 rfl) (x_var 0)) (x_var 2)) (ss_cons (s_fld (W.clsF 34 rfl) (W.noatF 36 rfl) (x_var 0) (x_var 1)) (ss_one (s_ret (x_ne hr (XE.bor (x_var 2)) (XE.bor (x_var 1)))))))))) (fun ds S Qd Ed hl h => by rw [F_Bench_keep_eq] at h; exact h)
theorem ok_Bench_keep : OkM P w K mg base 1 (He.ma K (He.ga K "Bench") "keep") (needN 2 F_Bench_keep) := okm_of (okn_Bench_keep W)
theorem okn_Bench_iadd : ∃ fd, FnOk P w K mg base (L2.CX P w) 5 (He.ma K (He.ga K "Bench") "__iadd__") fd ["self", "sets"] (SpT K (["self", "sets"] : List Str).length F_Bench_iadd) ∧ L2.Binds K fd ["self", "sets"] [] :=
  mk_okn (m := m_Bench_iadd) (W.c.def_ 37 rfl) sc_Bench_iadd (fun _ _ _ _ _ _ us hl => match us, hl with | [_, _], _ => rfl) (fun cdv A outer s H E b hr => (ss_cons (s_if (XW.t (w_or (t_not (t_val (XE.bor (x_callB back_F call_isi s_isi (W.free 2 rfl) bb_isinstance (ab_cons (XE.bor (x_var 1)) (ab_cons (XE.bor (x_ty (W.free 19 rfl) bb_tuple)) ab_nil)))))) (w_or (t_gt (XE.bor (x_callB back_F call_len s_len (W.free 28 rfl) bb_len (ab_cons (XE.bor (x_var 1)) ab_nil))) (XE.bor x_int)) (w_or1 (t_not (t_val (XE.bor (x_callB back_F (cr_all rfl) s_all (W.free 26 rfl) bb_all (ab_cons (XN.bor (x_lc [("one", 2)] rfl sc_Bench_iadd.nd (i_tup (x_var 1)) (by kernel_rfl) (tg_name 2) (by decide) (fun _ _ _ _ _ => (pg_name sc_Bench_iadd.nd (i := 2) rfl (by first | exact .inl rfl | exact .inr rfl))) (fun _ _ _ _ _ => ts_nil) (fun _ _ _ _ _ => (x_fn (ok_is_good_set W) hr (by decide) passL (a_cons (x_fld (W.clsF 34 rfl) (W.noatF 47 rfl) (x_var 0)) (a_cons (x_var 2) a_nil)))))) ab_nil))))))))) (ss_one (s_raise rfl takeB (W.exc 11 12 rfl rfl))) ss_nil) (ss_cons (s_drop (x_meth (W.clsF 34 rfl) (W.methF 58 rfl) (okn_Bench_keep W) hr (by decide) passB (x_var 0) (a_cons (x_callTy back_F call_tuple_of s_tuple (W.free 19 rfl) bb_tuple (ab_cons (XN.bor (x_sset rfl (W.free 18 rfl) (W.free 21 rfl) (XE.bor (x_add (XE.bor (x_fld (W.clsF 34 rfl) (W.noatF 36 rfl) (x_var 0))) (XE.bor (x_var 1)))))) ab_nil)) a_nil))) (ss_one (s_ret (x_var 0)))))) (fun ds S Qd Ed hl h => by rw [F_Bench_iadd_eq] at h; exact h)
theorem ok_Bench_iadd : OkM P w K mg base 5 (He.ma K (He.ga K "Bench") "__iadd__") (needN 2 F_Bench_iadd) := okm_of (okn_Bench_iadd W)
theorem okn_Bench_strike : ∃ fd, FnOk P w K mg base (L2.CX P w) 6 (He.ma K (He.ga K "Bench") "strike") fd ["self", "lot"] (SpT K (["self", "lot"] : List Str).length F_Bench_strike) ∧ L2.Binds K fd ["self", "lot"] [] :=
  mk_okn (m := m_Bench_strike) (W.c.def_ 38 rfl) sc_Bench_strike (fun _ _ _ _ _ _ us hl => match us, hl with | [_, _], _ => rfl) (fun cdv A outer s H E b hr => (ss_cons (s_drop (x_fn (ok_need_set W) hr (by decide) passB (a_cons (x_fld (W.clsF 34 rfl) (W.noatF 47 rfl) (x_var 0)) (a_cons (x_var 1) a_nil)))) (ss_one (s_ret (x_meth (W.clsF 34 rfl) (W.methF 58 rfl) (okn_Bench_keep W) hr (by decide) passB (x_var 0) (a_cons (x_callTy back_F call_tuple_of s_tuple (W.free 19 rfl) bb_tuple (ab_cons (XN.bor (x_lc [("one", 2)] rfl sc_Bench_strike.nd (i_tup (x_fld (W.clsF 34 rfl) (W.noatF 36 rfl) (x_var 0))) (by kernel_rfl) (tg_name 2) (by decide) (fun _ _ _ _ _ => (pg_name sc_Bench_strike.nd (i := 2) rfl (by first | exact .inl rfl | exact .inr rfl))) (fun _ _ _ _ _ => (ts_one (t_ne hr (XE.bor (x_var 2)) (XE.bor (x_var 1))))) (fun _ _ _ _ _ => (x_var 2)))) ab_nil)) a_nil)))))) (fun ds S Qd Ed hl h => by rw [F_Bench_strike_eq] at h; exact h)
theorem ok_Bench_strike : OkM P w K mg base 6 (He.ma K (He.ga K "Bench") "strike") (needN 2 F_Bench_strike) := okm_of (okn_Bench_strike W)
theorem okn_Bench_undo : ∃ fd, FnOk P w K mg base (L2.CX P w) 1 (He.ma K (He.ga K "Bench") "undo") fd ["self"] (SpT K (["self"] : List Str).length F_Bench_undo) ∧ L2.Binds K fd ["self"] [] :=
  mk_okn (m := m_Bench_undo) (W.c.def_ 39 rfl) sc_Bench_undo (fun _ _ _ _ _ _ us hl => match us, hl with | [_], _ => rfl) (fun cdv A outer s H E b hr => (ss_cons (s_if (t_nilM hr (x_fld (W.clsF 34 rfl) (W.noatF 35 rfl) (x_var 0))) (ss_one (s_raise rfl takeB (W.exc 59 60 rfl rfl))) ss_nil) (ss_one (s_fld (W.clsF 34 rfl) (W.noatF 36 rfl) (x_var 0) (x_popM (x_fld (W.clsF 34 rfl) (W.noatF 35 rfl) (x_var 0))))))) (fun ds S Qd Ed hl h => by rw [F_Bench_undo_eq] at h; exact h)
theorem ok_Bench_undo : OkM P w K mg base 1 (He.ma K (He.ga K "Bench") "undo") (needN 1 F_Bench_undo) := okm_of (okn_Bench_undo W)
theorem ok__law_deeds : Ok P w K mg base 10 "_law_deeds" ["_law_bench", "_law_sets_here"] F__law_deeds :=
  mk_ok (m := m__law_deeds) (W.def_ 61 40 rfl rfl) sc__law_deeds (fun _ _ _ _ _ _ us hl => match us, hl with | [_, _], _ => rfl) (fun cdv A outer s H E b hcdv hr => (ss_cons (s_augI 0 (opmB_ok (exAll (WEx W) 9 rfl)) (ok_Bench_iadd W) hr (by decide) passB sc__law_deeds.nd (x_var 1)) (ss_cons (s_augI 0 (opmB_ok (exAll (WEx W) 9 rfl)) (ok_Bench_iadd W) hr (by decide) passB sc__law_deeds.nd (x_tup a_nil)) (ss_cons (s_drop (x_meth (W.clsF 34 rfl) (W.methF 62 rfl) (okn_Bench_strike W) hr (by decide) passB (x_var 0) (a_cons x_str a_nil))) (ss_cons (s_drop (x_meth0 (W.clsF 34 rfl) (W.methF 63 rfl) (okn_Bench_undo W) hr (by decide) passB (x_var 0))) (ss_one (s_ret (x_lenI (opmB_ok (exAll (WEx W) 3 rfl)) (ok_Bench_len W) hr (by decide) passB (W.free 28 rfl) (x_var 0))))))))) (fun ds S Qd Ed hl h => by rw [F__law_deeds_eq] at h; exact h)
theorem att_ok {kk : Nat} : ∀ (cdv : Value) (A : Around) (outer : List Env) (s : Shared) (H : Hp) (E : XK) (b : Bs) (f : Addr) (act : D → T D), Room kk (bodyCx P w K mg base ["self", "action", "now", "past", "found"] "Bench.attempt" s_Bench_attempt (He.ma K (He.ga K "Bench") "attempt") cdv A outer s H E).A →
    (∀ (W : L2.WX) (pn : List (Addr × Obj)) (xe : Value → Shared → Prop), L2.Takes ((bodyCx P w K mg base ["self", "action", "now", "past", "found"] "Bench.attempt" s_Bench_attempt (He.ma K (He.ga K "Bench") "attempt") cdv A outer s H E).tr pn xe) W → PE ((bodyCx P w K mg base ["self", "action", "now", "past", "found"] "Bench.attempt" s_Bench_attempt (He.ma K (He.ga K "Bench") "attempt") cdv A outer s H E).tr pn xe) (.Call (.Name "action" ⟨128, 20, 128, 26⟩) [.Name "self" ⟨128, 27, 128, 31⟩] [] ⟨128, 20, 128, 32⟩) (actT K b f act W)) → XSs (bodyCx P w K mg base ["self", "action", "now", "past", "found"] "Bench.attempt" s_Bench_attempt (He.ma K (He.ga K "Bench") "attempt") cdv A outer s H E) E b (defBody s_Bench_attempt) (m_Bench_attempt f act) :=
  fun cdv A outer s H E b f act hr ha => (ss_cons (s_par 2 3 rfl sc_Bench_attempt.nd (a_cons (x_fld (W.clsF 34 rfl) (W.noatF 36 rfl) (x_var 0)) (a_cons (XN.sto (x_callTy back_N call_list_of s_listM (W.free 55 rfl) bb_list (ab_cons (XE.bor (x_fld (W.clsF 34 rfl) (W.noatF 35 rfl) (x_var 0))) ab_nil))) a_nil))) (ss_cons (s_tryAct (i := 4) (f := f) (act := act) rfl rfl rfl (takes_of (E := E) rfl rfl rfl rfl) sc_Bench_attempt.nd rfl (.inl rfl) (.inl rfl) ha (fun _ _ => (ss_one (s_par 2 3 rfl sc_Bench_attempt.nd (a_cons (x_fld (W.clsF 34 rfl) (W.noatF 36 rfl) (x_var 0)) (a_cons (x_fld (W.clsF 34 rfl) (W.noatF 35 rfl) (x_var 0)) a_nil))))) (ss_cons (s_fld (W.clsF 34 rfl) (W.noatF 36 rfl) (x_var 0) (x_var 2)) (ss_one (s_fld (W.clsF 34 rfl) (W.noatF 35 rfl) (x_var 0) (x_var 3)))) (fun _ _ => (ss_cons (s_fld (W.clsF 34 rfl) (W.noatF 36 rfl) (x_var 0) (x_var 2)) (ss_one (s_fld (W.clsF 34 rfl) (W.noatF 35 rfl) (x_var 0) (x_var 3)))))) (ss_one (s_ret (x_var 4)))))
theorem ok__law_fails (TB : ∀ p ∈ tq, LamX.TabB base mg (He.cT K p.1).1 (He.cT K p.1).2) : Ok P w K mg base 20 "_law_fails" ["_law_bench", "_law_sets_here", "_law_inner"] (F__law_fails (He.cT K ("_law_fails", none)).2) :=
  mk_ok (m := m__law_fails (He.cT K ("_law_fails", none)).2) (W.def_ 64 42 rfl rfl) sc__law_fails (fun _ _ _ _ _ _ us hl => match us, hl with | [_, _, _], _ => rfl) (fun cdv A outer s H E b hcdv hr => (ss_cons (s_if (t_val (XE.bor (x_var 2))) (ss_one (s_drop (pe_w (x_att (qualA := "Bench.attempt") (stA := s_Bench_attempt) (p := "_law_one") (k := 17) (KC := fun _ => True) (P := (He.cT K ("_law_fails", none)).2) (q := ("_law_fails.<locals>.<lambda>" : Str)) (W.clsF 34 rfl) (W.methF 65 rfl) (W.c.def_ 41 rfl) sc_Bench_attempt (fun _ _ _ _ _ _ us hl => match us, hl with | [_, _], _ => rfl) hr ⟨_, _, TB _ (List.Mem.head _)⟩ hcdv (fun _ _ _ _ I _ => (TB _ (List.Mem.head _)).code.keeps I.bk) (fun _ _ _ _ _ _ _ _ _ => trivial) passB (x_var 0) (by kernel_rfl) (show ("_law_one" : Str) ∉ (["_law_bench", "_law_sets_here", "_law_inner"] : List Str) from by decide +kernel) (fun _ _ _ _ _ _ _ hr hx => (x_fn (ok__law_deeds W) hr (by decide) hx (a_cons (x_var 3) (a_cons (x_var 1) a_nil)))) (att_ok W) (fun _ _ _ _ _ h => by rw [F_Bench_attempt_eq] at h; exact h) rfl rfl (.inl rfl) (.inl rfl) (by decide) (by decide) (by decide) (by decide)) fun _ _ _ h => ⟨trivial, h⟩))) (ss_one (s_augI 0 (opmB_ok (exAll (WEx W) 9 rfl)) (ok_Bench_iadd W) hr (by decide) passB sc__law_fails.nd (x_var 1)))) (ss_one (s_ret (x_ixI (opmB_ok (exAll (WEx W) 6 rfl)) (exAll (WEx W) 7 rfl) (ok_Bench_getitem W) hr (by decide) passB (x_var 0) x_int))))) (fun ds S Qd Ed hl h => by rw [F__law_fails_eq] at h; exact h)
theorem ok__law_tried (TB : ∀ p ∈ tq, LamX.TabB base mg (He.cT K p.1).1 (He.cT K p.1).2) : Ok P w K mg base 30 "_law_tried" ["_law_bench", "_law_sets_here", "_law_inner"] (F__law_tried (He.cT K ("_law_fails", none)).2 (He.cT K ("_law_tried", none)).2) :=
  mk_ok (m := m__law_tried (He.cT K ("_law_fails", none)).2 (He.cT K ("_law_tried", none)).2) (W.def_ 66 43 rfl rfl) sc__law_tried (fun _ _ _ _ _ _ us hl => match us, hl with | [_, _, _], _ => rfl) (fun cdv A outer s H E b hcdv hr => (ss_one (s_ret (pe_w (x_att (qualA := "Bench.attempt") (stA := s_Bench_attempt) (p := "_law_one") (k := 27) (KC := fun _ => True) (P := (He.cT K ("_law_tried", none)).2) (q := ("_law_tried.<locals>.<lambda>" : Str)) (W.clsF 34 rfl) (W.methF 65 rfl) (W.c.def_ 41 rfl) sc_Bench_attempt (fun _ _ _ _ _ _ us hl => match us, hl with | [_, _], _ => rfl) hr ⟨_, _, TB _ (List.Mem.tail _ (List.Mem.head _))⟩ hcdv (fun _ _ _ _ I _ => (TB _ (List.Mem.tail _ (List.Mem.head _))).code.keeps I.bk) (fun _ _ _ _ _ _ _ _ _ => trivial) passB (x_var 0) (by kernel_rfl) (show ("_law_one" : Str) ∉ (["_law_bench", "_law_sets_here", "_law_inner"] : List Str) from by decide +kernel) (fun _ _ _ _ _ _ _ hr hx => (x_fn (ok__law_fails W TB) hr (by decide) hx (a_cons (x_var 3) (a_cons (x_var 1) (a_cons (x_var 2) a_nil))))) (att_ok W) (fun _ _ _ _ _ h => by rw [F_Bench_attempt_eq] at h; exact h) rfl rfl (.inl rfl) (.inl rfl) (by decide) (by decide) (by decide) (by decide)) fun _ _ _ h => ⟨trivial, h⟩)))) (fun ds S Qd Ed hl h => by rw [F__law_tried_eq] at h; exact h)
theorem WD__law_word : ∃ fd, WordDef K mg "_law_word" "_law_call" s__law_word ["_law_call", "_law_word_here"] fd := W.word 67 44 rfl rfl (fun _ _ _ _ _ _ us hl => match us, hl with | [_], _ => rfl) sc__law_word rfl (.inl rfl) (by decide) (by decide)
theorem WG__law_word {X : Cx} (eK : X.K = K) (eM : X.mg = mg) : ∀ cdv, GivesW X ["_law_call", "_law_word_here"] "_law_word" (defScope s__law_word) (He.ga X.K "_law_word") cdv (defBody s__law_word) "_law_call" (wordT X.K [("InvalidNumber", "number"), ("InvalidSet", "set"), ("InvalidLetter", "letter"), ("NothingToUndo", "nothing")] "none") := by
  subst eK eM
  exact fun cdv => wordA_gives (M := "MeetError") (cs := [("InvalidNumber", "number"), ("InvalidSet", "set"), ("InvalidLetter", "letter"), ("NothingToUndo", "nothing")]) (rest := [(.ref (He.ga X.K "MeetError"), aSuite 1 "else")]) (excTB_ok (WX W)) (by decide) sc__law_word.nd (by decide) rfl rfl (by decide) (by decide) (fun s H => (.cons ⟨rfl, by decide, .inl (W.glo 37 rfl)⟩ (fun a oe cls d pn hz hf => a_suite (i := 1) sc__law_word.nd rfl (.inl rfl) (by first | exact .inl rfl | exact .inr rfl) a cls d) (.cons ⟨rfl, by decide, .inl (W.glo 11 rfl)⟩ (fun a oe cls d pn hz hf => a_suite (i := 1) sc__law_word.nd rfl (.inl rfl) (by first | exact .inl rfl | exact .inr rfl) a cls d) (.cons ⟨rfl, by decide, .inl (W.glo 29 rfl)⟩ (fun a oe cls d pn hz hf => a_suite (i := 1) sc__law_word.nd rfl (.inl rfl) (by first | exact .inl rfl | exact .inr rfl) a cls d) (.cons ⟨rfl, by decide, .inl (W.glo 59 rfl)⟩ (fun a oe cls d pn hz hf => a_suite (i := 1) sc__law_word.nd rfl (.inl rfl) (by first | exact .inl rfl | exact .inr rfl) a cls d) (.cons ⟨rfl, by decide, .inl (W.glo 68 rfl)⟩ (fun a oe cls d pn hz hf => a_suite (i := 1) sc__law_word.nd rfl (.inl rfl) (by first | exact .inl rfl | exact .inr rfl) a cls d) .nil))))))
theorem okn_Bench_put : ∃ fd, FnOk P w K mg base (L2.CX P w) 6 (He.ma K (He.ga K "Bench") "put") fd ["self", "lot"] (SpT K (["self", "lot"] : List Str).length F_Bench_put) ∧ L2.Binds K fd ["self", "lot"] [] :=
  mk_okn (m := m_Bench_put) (W.c.def_ 45 rfl) sc_Bench_put (fun _ _ _ _ _ _ us hl => match us, hl with | [_, _], _ => rfl) (fun cdv A outer s H E b hr => (ss_cons (s_drop (x_fn (ok_need_set W) hr (by decide) passB (a_cons (x_fld (W.clsF 34 rfl) (W.noatF 47 rfl) (x_var 0)) (a_cons (x_var 1) a_nil)))) (ss_one (s_ret (x_meth (W.clsF 34 rfl) (W.methF 58 rfl) (okn_Bench_keep W) hr (by decide) passB (x_var 0) (a_cons (x_callTy back_F call_tuple_of s_tuple (W.free 19 rfl) bb_tuple (ab_cons (XN.bor (x_sset rfl (W.free 18 rfl) (W.free 21 rfl) (XE.bor (x_add (XE.bor (x_fld (W.clsF 34 rfl) (W.noatF 36 rfl) (x_var 0))) (XE.bor (x_tup (a_cons (x_var 1) a_nil))))))) ab_nil)) a_nil)))))) (fun ds S Qd Ed hl h => by rw [F_Bench_put_eq] at h; exact h)
theorem ok_Bench_put : OkM P w K mg base 6 (He.ma K (He.ga K "Bench") "put") (needN 2 F_Bench_put) := okm_of (okn_Bench_put W)
theorem okn_Bench_squeeze : ∃ fd, FnOk P w K mg base (L2.CX P w) 6 (He.ma K (He.ga K "Bench") "squeeze") fd ["self", "letter"] (SpT K (["self", "letter"] : List Str).length F_Bench_squeeze) ∧ L2.Binds K fd ["self", "letter"] [] :=
  mk_okn (m := m_Bench_squeeze) (W.c.def_ 46 rfl) sc_Bench_squeeze (fun _ _ _ _ _ _ us hl => match us, hl with | [_, _], _ => rfl) (fun cdv A outer s H E b hr => (ss_cons (s_drop (x_fn (ok_need_letter W) hr (by decide) passB (a_cons (x_fld (W.clsF 34 rfl) (W.noatF 47 rfl) (x_var 0)) (a_cons (x_var 1) a_nil)))) (ss_one (s_ret (x_meth (W.clsF 34 rfl) (W.methF 58 rfl) (okn_Bench_keep W) hr (by decide) passB (x_var 0) (a_cons (x_fn (ok_squeezed_by W) hr (by decide) passB (a_cons (x_fld (W.clsF 34 rfl) (W.noatF 36 rfl) (x_var 0)) (a_cons (x_var 1) a_nil))) a_nil)))))) (fun ds S Qd Ed hl h => by rw [F_Bench_squeeze_eq] at h; exact h)
theorem ok_Bench_squeeze : OkM P w K mg base 6 (He.ma K (He.ga K "Bench") "squeeze") (needN 2 F_Bench_squeeze) := okm_of (okn_Bench_squeeze W)
theorem ok_law (TB : ∀ p ∈ tq, LamX.TabB base mg (He.cT K p.1).1 (He.cT K p.1).2) : Ok P w K mg base 40 "law" ["_law_script"] (F_law (He.cT K ("_law_fails", none)).2 (He.cT K ("_law_tried", none)).2 (He.cT K ("law", none)).2) :=
  mk_ok (m := m_law (He.cT K ("_law_fails", none)).2 (He.cT K ("_law_tried", none)).2 (He.cT K ("law", none)).2) (W.def_ 69 47 rfl rfl) sc_law (fun _ _ _ _ _ _ us hl => match us, hl with | [_], _ => rfl) (fun cdv A outer s H E b hcdv hr => (ss_cons (s_for ownB rfl (i_rng1 (W.free 54 rfl) (ab_cons (XE.bor (x_add (XE.bor x_int) (XE.bor (x_callB back_F (call_min2 rfl) s_min2 (W.free 70 rfl) bb_min (ab_cons (XE.bor (x_callB back_F call_len s_len (W.free 28 rfl) bb_len (ab_cons (XE.bor (x_var 0)) ab_nil))) (ab_cons (XE.bor x_int) ab_nil)))))) ab_nil)) (pg_name sc_law.nd (i := 1) rfl (by first | exact .inl rfl | exact .inr rfl)) (tg_name 1) (ss_cons (s_set 2 sc_law.nd (x_fn (ok__law_source W) hr (by decide) passB (a_cons (x_var 0) (a_cons (x_var 1) a_nil)))) (ss_cons (s_set 3 sc_law.nd (x_add (XE.bor x_int) (XE.bor (x_fn (ok__law_draw W) hr (by decide) passB (a_cons (x_var 2) (a_cons x_int a_nil)))))) (ss_cons (s_asg (x_tup (a_cons (x_add (XE.bor x_int) (XE.bor (x_fn (ok__law_draw W) hr (by decide) passB (a_cons (x_var 2) (a_cons x_int a_nil))))) (a_cons (x_fn (ok__law_sets W) hr (by decide) passB (a_cons (x_var 3) a_nil)) a_nil))) (pg_tup rfl (pgs_cons (pg_name sc_law.nd (i := 4) rfl (by first | exact .inl rfl | exact .inr rfl)) (pgs_cons (pg_name sc_law.nd (i := 5) rfl (by first | exact .inl rfl | exact .inr rfl)) pgs_nil))) (tg_two 4 5) (hw := swap_cell rfl)) (ss_cons (s_set 6 sc_law.nd (x_callTy back_F call_tuple_of s_tuple (W.free 19 rfl) bb_tuple (ab_cons (XN.bor (x_lc [("_law_turn", 11)] rfl sc_law.nd (i_rng1 (W.free 54 rfl) (ab_cons (XE.bor (x_var 4)) ab_nil)) (by kernel_rfl) (tg_name 11) (by decide) (fun _ _ _ _ _ => (pg_name sc_law.nd (i := 11) rfl (by first | exact .inl rfl | exact .inr rfl))) (fun _ _ _ _ _ => ts_nil) (fun _ _ _ _ _ => (x_fn (ok__law_of W) hr (by decide) passL (a_cons (x_var 2) (a_cons (x_var 5) a_nil)))))) ab_nil))) (ss_cons (s_set 7 sc_law.nd (x_callTy back_F call_tuple_of s_tuple (W.free 19 rfl) bb_tuple (ab_cons (XN.bor (x_sset rfl (W.free 18 rfl) (W.free 21 rfl) (XE.bor (x_var 6)))) ab_nil))) (ss_cons (s_asg (x_tup (a_cons (x_make (W.mkrF 71 rfl) (ok_Bench_init W) (W.glo 48 rfl) hr (by decide) passB (a_cons (x_var 3) a_nil)) (a_cons (x_eq hr (XE.bor (x_fn (ok__law_draw W) hr (by decide) passB (a_cons (x_var 2) (a_cons x_int a_nil)))) (XE.bor x_int)) a_nil))) (pg_tup rfl (pgs_cons (pg_name sc_law.nd (i := 8) rfl (by first | exact .inl rfl | exact .inr rfl)) (pgs_cons (pg_name sc_law.nd (i := 9) rfl (by first | exact .inl rfl | exact .inr rfl)) pgs_nil))) (tg_two 8 9) (hw := swap_cell rfl)) (ss_cons (s_if (t_ne hr (XE.bor (x_lamwordT (k := 37) (mb := fun P2 => (fun g => T.bind ((argsC (fun g => getv g 8) (argsC (fun g => getv g 6) (argsC (fun g => getv g 9) args0))) g) fun ds => T.bind (dNeed (ds.length = 3)) fun _ => (F__law_tried (He.cT K ("_law_fails", none)).2 (He.cT K ("_law_tried", none)).2) ds)) (WD__law_word W) (WG__law_word W rfl rfl) (TB _ (List.Mem.tail _ (List.Mem.tail _ (List.Mem.head _)))) hcdv hr (by kernel_rfl) (fun _ _ _ _ _ _ c2 P2 hr hx => (pe_w (x_fn (ok__law_tried W TB) hr (by decide) hx (a_cons (x_var 8) (a_cons (x_var 6) (a_cons (x_var 9) a_nil)))) fun _ _ _ h => h.2)))) (XE.bor x_str)) (ss_one (s_ret x_bl)) ss_nil) (ss_cons (s_if (t_not (t_val (XE.bor (x_fn (ok__law_bench_shows W) hr (by decide) passB (a_cons (x_var 8) (a_cons (x_var 3) (a_cons (x_tup a_nil) (a_cons x_int a_nil)))))))) (ss_one (s_ret x_bl)) ss_nil) (ss_cons (s_if (t_ne hr (XE.bor (pe_w (x_att (qualA := "Bench.attempt") (stA := s_Bench_attempt) (p := "_law_one") (k := 37) (KC := fun _ => True) (P := (He.cT K ("law", none)).2) (q := ("law.<locals>.<lambda>" : Str)) (W.clsF 34 rfl) (W.methF 65 rfl) (W.c.def_ 41 rfl) sc_Bench_attempt (fun _ _ _ _ _ _ us hl => match us, hl with | [_, _], _ => rfl) hr ⟨_, _, TB _ (List.Mem.tail _ (List.Mem.tail _ (List.Mem.head _)))⟩ hcdv (fun _ _ _ _ I _ => (TB _ (List.Mem.tail _ (List.Mem.tail _ (List.Mem.head _)))).code.keeps I.bk) (fun _ _ _ _ _ _ _ _ _ => trivial) passB (x_var 8) (by kernel_rfl) (show ("_law_one" : Str) ∉ (["_law_script", "_law_k", "_law_source_here", "_law_letters", "_law_many", "_law_every", "_law_sets_here", "_law_family", "_law_bench", "_law_inner", "_law_now", "_law_turn"] : List Str) from by decide +kernel) (fun _ _ _ _ _ _ _ hr hx => (x_fn (ok__law_deeds W) hr (by decide) hx (a_cons (x_var 12) (a_cons (x_var 6) a_nil)))) (att_ok W) (fun _ _ _ _ _ h => by rw [F_Bench_attempt_eq] at h; exact h) rfl rfl (.inl rfl) (.inl rfl) (by decide) (by decide) (by decide) (by decide)) fun _ _ _ h => ⟨trivial, h⟩)) (XE.bor x_int)) (ss_one (s_ret x_bl)) ss_nil) (ss_cons (s_if (t_not (t_val (XE.bor (x_fn (ok__law_bench_shows W) hr (by decide) passB (a_cons (x_var 8) (a_cons (x_var 3) (a_cons (x_var 7) (a_cons x_int a_nil)))))))) (ss_one (s_ret x_bl)) ss_nil) (ss_cons (s_if (t_ne hr (XE.bor (x_lamwordT (k := 37) (mb := fun P2 => (fun g => T.bind ((fun g => getv g 8) g) fun d => insOf "Bench" d fun _ fs => T.bind (dNeed (fs.lookup ("attempt" : Str) = none)) fun _ => lamDT P2 (inQ ("law.<locals>.<lambda>" : Str)) fun _ => F_Bench_attempt (fun v => (fun g => T.bind ((fun g => getv g 12) g) fun d => insOf "Bench" d fun _ fs => T.bind (dNeed (fs.lookup ("put" : Str) = none)) fun _ => T.bind ((argsC (fun _ => T.pure (.str "e")) args0) g) fun ds => needN 2 F_Bench_put (d :: ds)) (g ++ [Sl.va v])) d)) (WD__law_word W) (WG__law_word W rfl rfl) (TB _ (List.Mem.tail _ (List.Mem.tail _ (List.Mem.head _)))) hcdv hr (by kernel_rfl) (fun _ _ _ _ _ _ c2 P2 hr hx => (x_att (qualA := "Bench.attempt") (stA := s_Bench_attempt) (p := "_law_one") (k := 35) (KC := fun H => H c2 = some (Lam4.CodeT c2 ("law.<locals>.<lambda>" : Str) P2)) (P := P2) (q := inQ ("law.<locals>.<lambda>" : Str)) (W.clsF 34 rfl) (W.methF 65 rfl) (W.c.def_ 41 rfl) sc_Bench_attempt (fun _ _ _ _ _ _ us hl => match us, hl with | [_, _], _ => rfl) hr ⟨_, _, TB _ (List.Mem.tail _ (List.Mem.tail _ (List.Mem.head _)))⟩ rfl hd_T keep_T hx (x_var 8) (by kernel_rfl) (show ("_law_one" : Str) ∉ (["_law_script", "_law_k", "_law_source_here", "_law_letters", "_law_many", "_law_every", "_law_sets_here", "_law_family", "_law_bench", "_law_inner", "_law_now", "_law_turn"] : List Str) from by decide +kernel) (fun _ _ _ _ _ _ _ hr hx => (x_meth (W.clsF 34 rfl) (W.methF 72 rfl) (okn_Bench_put W) hr (by decide) hx (x_var 12) (a_cons x_str a_nil))) (att_ok W) (fun _ _ _ _ _ h => by rw [F_Bench_attempt_eq] at h; exact h) rfl rfl (.inl rfl) (.inl rfl) (by decide) (by decide) (by decide) (by decide))))) (XE.bor x_str)) (ss_one (s_ret x_bl)) ss_nil) (ss_cons (s_if (t_ne hr (XE.bor (x_lamwordT (k := 37) (mb := fun P2 => (fun g => T.bind ((argsC (fun g => getv g 8) (argsC (fun g => getv g 6) (argsC (fun g => T.bind ((fun g => getv g 9) g) fun x => T.bind (dAsB x) fun k => T.pure (.bl (!k))) args0))) g) fun ds => T.bind (dNeed (ds.length = 3)) fun _ => (F__law_tried (He.cT K ("_law_fails", none)).2 (He.cT K ("_law_tried", none)).2) ds)) (WD__law_word W) (WG__law_word W rfl rfl) (TB _ (List.Mem.tail _ (List.Mem.tail _ (List.Mem.head _)))) hcdv hr (by kernel_rfl) (fun _ _ _ _ _ _ c2 P2 hr hx => (pe_w (x_fn (ok__law_tried W TB) hr (by decide) hx (a_cons (x_var 8) (a_cons (x_var 6) (a_cons (x_not (x_var 9)) a_nil)))) fun _ _ _ h => h.2)))) (XE.bor x_str)) (ss_one (s_ret x_bl)) ss_nil) (ss_cons (s_if (t_ne hr (XE.bor (x_lamwordT (k := 37) (mb := fun P2 => (fun g => T.bind ((fun g => getv g 8) g) fun d => insOf "Bench" d fun _ fs => T.bind (dNeed (fs.lookup ("attempt" : Str) = none)) fun _ => lamDT P2 (inQ ("law.<locals>.<lambda>" : Str)) fun _ => F_Bench_attempt (fun v => (fun g => T.bind ((fun g => getv g 12) g) fun d => insOf "Bench" d fun _ fs => T.bind (dNeed (fs.lookup ("squeeze" : Str) = none)) fun _ => T.bind ((argsC (fun _ => T.pure (.str "e")) args0) g) fun ds => needN 2 F_Bench_squeeze (d :: ds)) (g ++ [Sl.va v])) d)) (WD__law_word W) (WG__law_word W rfl rfl) (TB _ (List.Mem.tail _ (List.Mem.tail _ (List.Mem.head _)))) hcdv hr (by kernel_rfl) (fun _ _ _ _ _ _ c2 P2 hr hx => (x_att (qualA := "Bench.attempt") (stA := s_Bench_attempt) (p := "_law_one") (k := 35) (KC := fun H => H c2 = some (Lam4.CodeT c2 ("law.<locals>.<lambda>" : Str) P2)) (P := P2) (q := inQ ("law.<locals>.<lambda>" : Str)) (W.clsF 34 rfl) (W.methF 65 rfl) (W.c.def_ 41 rfl) sc_Bench_attempt (fun _ _ _ _ _ _ us hl => match us, hl with | [_, _], _ => rfl) hr ⟨_, _, TB _ (List.Mem.tail _ (List.Mem.tail _ (List.Mem.head _)))⟩ rfl hd_T keep_T hx (x_var 8) (by kernel_rfl) (show ("_law_one" : Str) ∉ (["_law_script", "_law_k", "_law_source_here", "_law_letters", "_law_many", "_law_every", "_law_sets_here", "_law_family", "_law_bench", "_law_inner", "_law_now", "_law_turn"] : List Str) from by decide +kernel) (fun _ _ _ _ _ _ _ hr hx => (x_meth (W.clsF 34 rfl) (W.methF 73 rfl) (okn_Bench_squeeze W) hr (by decide) hx (x_var 12) (a_cons x_str a_nil))) (att_ok W) (fun _ _ _ _ _ h => by rw [F_Bench_attempt_eq] at h; exact h) rfl rfl (.inl rfl) (.inl rfl) (by decide) (by decide) (by decide) (by decide))))) (XE.bor x_str)) (ss_one (s_ret x_bl)) ss_nil) (ss_cons (s_for ownB rfl (i_lst (XN.stay (x_lst (a_cons (x_tup (a_cons x_int (a_cons (x_var 7) a_nil))) (a_cons (x_tup (a_cons x_int (a_cons (x_tup a_nil) a_nil))) a_nil))))) (pg_tup rfl (pgs_cons (pg_name sc_law.nd (i := 4) rfl (by first | exact .inl rfl | exact .inr rfl)) (pgs_cons (pg_name sc_law.nd (i := 10) rfl (by first | exact .inl rfl | exact .inr rfl)) pgs_nil))) (tg_two 4 10) (ss_cons (s_if (t_notN (XE.bor (x_meth0 (W.clsF 34 rfl) (W.methF 63 rfl) (okn_Bench_undo W) hr (by decide) passB (x_var 8))) (XE.bor x_non)) (ss_one (s_ret x_bl)) ss_nil) (ss_one (s_if (t_not (t_val (XE.bor (x_fn (ok__law_bench_shows W) hr (by decide) passB (a_cons (x_var 8) (a_cons (x_var 3) (a_cons (x_var 10) (a_cons (x_var 4) a_nil)))))))) (ss_one (s_ret x_bl)) ss_nil)))) (ss_cons (s_if (t_ne hr (XE.bor (x_lamwordT (k := 37) (mb := fun P2 => (fun g => T.bind ((fun g => getv g 8) g) fun d => insOf "Bench" d fun _ fs => T.bind (dNeed (fs.lookup ("attempt" : Str) = none)) fun _ => lamDT P2 (inQ ("law.<locals>.<lambda>" : Str)) fun _ => F_Bench_attempt (fun v => (fun g => T.bind ((fun g => getv g 12) g) fun d => insOf "Bench" d fun _ fs => T.bind (dNeed (fs.lookup ("undo" : Str) = none)) fun _ => needN 1 F_Bench_undo [d]) (g ++ [Sl.va v])) d)) (WD__law_word W) (WG__law_word W rfl rfl) (TB _ (List.Mem.tail _ (List.Mem.tail _ (List.Mem.head _)))) hcdv hr (by kernel_rfl) (fun _ _ _ _ _ _ c2 P2 hr hx => (x_att (qualA := "Bench.attempt") (stA := s_Bench_attempt) (p := "_law_one") (k := 35) (KC := fun H => H c2 = some (Lam4.CodeT c2 ("law.<locals>.<lambda>" : Str) P2)) (P := P2) (q := inQ ("law.<locals>.<lambda>" : Str)) (W.clsF 34 rfl) (W.methF 65 rfl) (W.c.def_ 41 rfl) sc_Bench_attempt (fun _ _ _ _ _ _ us hl => match us, hl with | [_, _], _ => rfl) hr ⟨_, _, TB _ (List.Mem.tail _ (List.Mem.tail _ (List.Mem.head _)))⟩ rfl hd_T keep_T hx (x_var 8) (by kernel_rfl) (show ("_law_one" : Str) ∉ (["_law_script", "_law_k", "_law_source_here", "_law_letters", "_law_many", "_law_every", "_law_sets_here", "_law_family", "_law_bench", "_law_inner", "_law_now", "_law_turn"] : List Str) from by decide +kernel) (fun _ _ _ _ _ _ _ hr hx => (x_meth0 (W.clsF 34 rfl) (W.methF 63 rfl) (okn_Bench_undo W) hr (by decide) hx (x_var 12))) (att_ok W) (fun _ _ _ _ _ h => by rw [F_Bench_attempt_eq] at h; exact h) rfl rfl (.inl rfl) (.inl rfl) (by decide) (by decide) (by decide) (by decide))))) (XE.bor x_str)) (ss_one (s_ret x_bl)) ss_nil) (ss_one (s_if (XW.t (w_or (t_ne hr (XE.bor (pe_w (x_att (qualA := "Bench.attempt") (stA := s_Bench_attempt) (p := "_law_one") (k := 37) (KC := fun _ => True) (P := (He.cT K ("law", none)).2) (q := ("law.<locals>.<lambda>" : Str)) (W.clsF 34 rfl) (W.methF 65 rfl) (W.c.def_ 41 rfl) sc_Bench_attempt (fun _ _ _ _ _ _ us hl => match us, hl with | [_, _], _ => rfl) hr ⟨_, _, TB _ (List.Mem.tail _ (List.Mem.tail _ (List.Mem.head _)))⟩ hcdv (fun _ _ _ _ I _ => (TB _ (List.Mem.tail _ (List.Mem.tail _ (List.Mem.head _)))).code.keeps I.bk) (fun _ _ _ _ _ _ _ _ _ => trivial) passB (x_var 8) (by kernel_rfl) (show ("_law_one" : Str) ∉ (["_law_script", "_law_k", "_law_source_here", "_law_letters", "_law_many", "_law_every", "_law_sets_here", "_law_family", "_law_bench", "_law_inner", "_law_now", "_law_turn"] : List Str) from by decide +kernel) (fun _ _ _ _ _ _ _ hr hx => x_int) (att_ok W) (fun _ _ _ _ _ h => by rw [F_Bench_attempt_eq] at h; exact h) rfl rfl (.inl rfl) (.inl rfl) (by decide) (by decide) (by decide) (by decide)) fun _ _ _ h => ⟨trivial, h⟩)) (XE.bor x_int)) (w_or1 (t_not (t_cmpI (op := .Eq) (fun _ _ => rfl) (opmB_ok (exAll (WEx W) 10 rfl)) (exAll (WEx W) 11 rfl) (ok_Bench_eq W) hr (by decide) passB (x_var 8) (x_make (W.mkrF 71 rfl) (ok_Bench_init W) (W.glo 48 rfl) hr (by decide) passB (a_cons (x_var 3) a_nil))))))) (ss_one (s_ret x_bl)) ss_nil)))))))))))))))))) (ss_one (s_ret x_bl)))) (fun ds S Qd Ed hl h => by rw [F_law_eq] at h; exact h)
end
/-! ### the head -/
abbrev Rw : PySem.W.OpenRow := PySem.W.OpenLaw.row PySem.Challenge.rw_evenlymet_k15_attempts_at_benches
abbrev hk : PySem.W.Hook := hookY 7 fa fn [] (tq.map (·.1)) ex fy
def ob (s : PySem.W.SharedT) : AlY := obsY 7 fa fn [] (tq.map (·.1)) ex fy (HandSHeadRun.getT s)
theorem ob_eq (s : PySem.W.SharedT) : ob s = hk.obs s.abs := obsY_eq (HandSHeadRun.getT_eq s)
theorem run (w : World) : HandSHeadRun.RunEq Rw (PySem.W.view Rw.prog [49]) hk ob 9000 ((["MeetError", "InvalidLetters", "InvalidSet", "InvalidLetter", "InvalidNumber", "NothingToUndo", "TooMany", "LETTERS", "is_number", "is_good_set", "need_letters", "need_set", "joined", "met", "less", "is_in", "every_set", "joins_of", "meets_of", "differences_of"] : List Str) ++ (["is_closed_down", "need_letter", "squeezed_by", "picks", "word_of", "CALLS", "Bench", "_law_source", "_law_draw", "_law_of", "_law_join", "_law_meet", "_law_less", "_law_sets", "_law_within", "_law_made", "_law_is_down", "_law_picks", "_law_bench_shows", "_law_deeds"] : List Str) ++ (["_law_fails", "_law_tried", "_law_word"] : List Str)) w := by
  intro os
  kernel_rfl

theorem cw_holds (data : ∀ (K : PySem.W.Frag) (ns : List Int), ex K = true → ns.length ≤ 63 → (∀ z ∈ ns, Builtin.Int.intBits z ≤ 1048576) → (F_law (He.cT K ("_law_fails", none)).2 (He.cT K ("_law_tried", none)).2 (He.cT K ("law", none)).2) [.frz (ns.map D.int)] (S0T K tq) (fun d _ => d = .bl true) fun _ _ => False) : PySem.Challenge.rw_evenlymet_k15_attempts_at_benches.Holds := by
  w_on; o_law
  refine HandSHeadRun.head_any (r := Rw) (q := PySem.W.view Rw.prog [49]) (H := hk) (ob := ob) (M := 9000) (loose := ((["MeetError", "InvalidLetters", "InvalidSet", "InvalidLetter", "InvalidNumber", "NothingToUndo", "TooMany", "LETTERS", "is_number", "is_good_set", "need_letters", "need_set", "joined", "met", "less", "is_in", "every_set", "joins_of", "meets_of", "differences_of"] : List Str) ++ (["is_closed_down", "need_letter", "squeezed_by", "picks", "word_of", "CALLS", "Bench", "_law_source", "_law_draw", "_law_of", "_law_join", "_law_meet", "_law_less", "_law_sets", "_law_within", "_law_made", "_law_is_down", "_law_picks", "_law_bench_shows", "_law_deeds"] : List Str) ++ (["_law_fails", "_law_tried", "_law_word"] : List Str))) (d := HandSHeadRun.topDef Rw.prog 49) (kwd := []) ob_eq
    (by kernel_rfl) (fun s => by kernel_rfl) run (by kernel_rfl) (by kernel_rfl) (by kernel_rfl) (by rfl) (by first | assumption | decide +kernel) (by decide +kernel) ⟨rfl, rfl, rfl, rfl, rfl, by decide +kernel⟩ ?hw ?hc
  case hw => w_witness2
  case hc =>
    refine law_endT (l := PySem.Challenge.rw_evenlymet_k15_attempts_at_benches) (n := 63) (k := 40) (N := 7) (x := "_law_script") (lawN := "law") (fa := fa) (fn := fn) (ts := []) (tq := tq) (ex := ex) (fy := fy) (F := fun K => F_law (He.cT K ("_law_fails", none)).2 (He.cT K ("_law_tried", none)).2 (He.cT K ("law", none)).2) rfl (by decide) (by kernel_rfl) ⟨rfl, by decide, by decide⟩ (by kernel_rfl) (fun w K mg h KX G c => ?_) (fun K h => ?_) data
    · have W : HdY fa fn ex fy K mg := ⟨⟨⟨h, KX, G⟩, c.x.t.d, c.x.more⟩, fun i d e => c.def_ i e⟩
      obtain ⟨fd, F⟩ := W.c.def_ 47 (d := ⟨("law", none), "law", "law", defArgs s_law, defBody s_law, defScope s_law, [], []⟩) rfl
      have b := FunD.bindsA (ps := ["_law_script"]) F fun _ _ _ _ _ _ us hl => match us, hl with | [_], _ => rfl
      refine ⟨⟨fd, fun s v => b s [v] rfl, ?_⟩, W.glo 69 rfl, fun base h1 h2 h3 => ok_law W h3⟩
      obtain ⟨oc, od, dV, kV, doc, pm, an, cdv, ct, osl, rfl, lk, _⟩ := F.ex
      exact ⟨_, _, _, lk⟩
    · exact of_decide_eq_true (exAll (l := exl) (Bool.and_eq_true_iff.mp h).2 12 rfl)
end Em

theorem PySem.Challenge.cw_evenlymet_k15_attempts_at_benches_holds : PySem.Challenge.rw_evenlymet_k15_attempts_at_benches.Holds := by
  exact Em.cw_holds fun K ns h hl hb => Em.data_ok0 K ns (of_decide_eq_true (DL.exAll (l := Em.exl) (Bool.and_eq_true_iff.mp h).2 12 rfl)) hl hb
