/-
  What is proved: lemmas on the way to the laws of this seat. No condition.
-/
import Derived.Test.YtbghjecopkbhlaaGreatRc
import Derived.IntWalk
import Derived.Test.YtbghjecopkbhlaaGreatRd
set_option linter.unusedVariables false
set_option linter.unusedSimpArgs false
namespace Go.Wr
abbrev iT (n : Int) : T := .i .i64 n
abbrev iB (n : UInt8) : T := .i .u8 n.toNat
abbrev ints (o : Ob) (l : List Int) : T := .l o 1 (l.map iT)
abbrev bytes (o : Ob) (l : List UInt8) : T := .l o 1 (l.map iB)
abbrev dE.lss (o : Ob) (l : List (List Int)) : T := .l o 1 (l.map (ints o))
theorem Z6u {α : Type} (f : α -> T) (l : List α) : fzs (l.map f) = l.map fun x => (f x).fz := by rw [Z6x, Y51]; rfl
theorem Z6s : (fun x => (iT x).fz) = iT := rfl
theorem Z6q : (fun x => (iB x).fz) = iB := rfl
theorem Z6t (o : Ob) : (fun l => (ints o l).fz) = ints .n := by funext x; simp only [ints, T.fz, Z6u]
def aF {α : Type} (f : α -> Nat) (l : List α) : Nat := l.length + (l.map f).sum
def fits {α : Type} (p : α -> Prop) (l : List α) : Prop := l.length <= maxLen /\ ∀ x ∈ l, p x
theorem Z1t {α : Type} (f : α -> Nat) (l : List α) : l.length <= aF f l := by unfold aF; omega
theorem Z1v {α : Type} {f : α -> Nat} {l : List α} {i : Nat} {x : α} (h : l[i]? = some x) : f x <= aF f l := by
 have : ∀ {l : List α} {i : Nat}, l[i]? = some x -> f x <= (l.map f).sum := by
  intro l
  induction l with
  | nil => intro i h; simp at h
  | cons a l ih =>
   intro i h
   cases i with
   | zero => simp at h; subst h; simp
   | succ i => have := ih (i := i) (by simpa using h); simp; omega
 have := this h
 unfold aF; omega
theorem Z7w {fs : List Ty} {ts : List T} (h : bE (.st fs) ts) : fC fs ts := by simpa only [bE] using h
theorem Z7x {f : Ty} {fs : List Ty} {ts : List T} (h : fC (f :: fs) ts) : ∃ a b, ts = a ++ b /\ bE f a /\ fC fs b := by simpa only [fC] using h
theorem Z7y {ts : List T} (h : fC [] ts) : ts = [] := by simpa only [fC] using h
theorem Z7u {ts : List T} (h : bE (.i .i64) ts) : ∃ n, ts = [iT n] := by
 simp only [bE] at h
 obtain ⟨n, rfl, _⟩ := h
 exact ⟨n, rfl⟩
theorem Z7t {ts : List T} (h : bE .b ts) : ∃ n, ts = [.b n] := by
 simp only [bE] at h
 exact h
theorem Zas {α β : Type} {f : α -> β} {p : α -> Prop} : ∀ {es : List β}, (∀ x ∈ es, ∃ a, x = f a /\ p a) -> ∃ l : List α, es = l.map f /\ ∀ x ∈ l, p x
 | [], _ => ⟨[], rfl, by simp⟩
 | x :: es, h => by
  obtain ⟨a, rfl, ha⟩ := h x Y57
  obtain ⟨l, rfl, hl⟩ := Zas fun y hy => h y (Y56 _ hy)
  exact ⟨a :: l, rfl, by simpa using ⟨ha, hl⟩⟩
theorem Za0 {α : Type} {e : Ty} {el : α -> T} {p : α -> Prop} {ts : List T} (h : bE (.l e) ts) (he : ∀ cs, bE e cs -> ∃ x, gG e.agg cs = el x /\ p x) : ∃ l : List α, ts = [.l .n e.size (l.map el)] /\ fits p l := by
 simp only [bE] at h
 obtain ⟨es, rfl, hl, hes⟩ := h
 obtain ⟨l, rfl, hp⟩ := Zas (f := el) (p := p) fun x hx => by
  obtain ⟨cs, hc, rfl⟩ := hes x hx
  exact he cs hc
 exact ⟨l, rfl, by simpa using hl, hp⟩
theorem Z8q {ts : List T} (h : bE (.l (.i .i64)) ts) : ∃ l : List Int, ts = [ints .n l] /\ l.length <= maxLen := by
 obtain ⟨l, rfl, h1, _⟩ := Za0 (el := iT) (p := fun _ => True) h fun cs hc => by
  obtain ⟨n, rfl⟩ := Z7u hc
  exact ⟨n, rfl, trivial⟩
 exact ⟨l, rfl, h1⟩
theorem Z22 {ts : List T} (h : bE (.l (.i .u8)) ts) : ∃ l : List UInt8, ts = [bytes .n l] /\ l.length <= maxLen := by
 obtain ⟨l, rfl, h1, _⟩ := Za0 (el := iB) (p := fun _ => True) h fun cs hc => by
  simp only [bE] at hc
  obtain ⟨n, rfl, h0, h1⟩ := hc
  have : IntKind.min .u8 = 0 := by decide
  have : IntKind.max .u8 = 255 := by decide
  refine ⟨UInt8.ofNat n.toNat, ?_, trivial⟩
  simp only [gG, Ty.agg, List.headD_cons, Y9, if_false, T.i.injEq, true_and]
  rw [UInt8.toNat_ofNat_of_lt' (by simp [UInt8.size]; omega)]
  omega
 exact ⟨l, rfl, h1⟩
theorem Z8r {ts : List T} (h : bE (.l (.l (.i .i64))) ts) : ∃ l : List (List Int), ts = [dE.lss .n l] /\ fits (fun l => l.length <= maxLen) l := Za0 (el := ints .n) h fun cs hc => by
 obtain ⟨n, rfl, hn⟩ := Z8q hc
 exact ⟨n, rfl, hn⟩
structure ag where
 Count : Int
 Sum : Int
 Min : Int
 Max : Int
 aW : List Int
 aT : List Int
 Rows : List (List Int)
 deriving DecidableEq, Inhabited
def ag.cs (o : Ob) (x : ag) : List T := [iT x.Count, iT x.Sum, iT x.Min, iT x.Max, ints o x.aW, ints o x.aT, dE.lss o x.Rows]
def ag.el (o : Ob) (x : ag) : T := .a (x.cs o)
abbrev ag.ls (o : Ob) (l : List ag) : T := .l o 7 (l.map (ag.el o))
def ag.ae (x : ag) : Nat := x.aW.length + x.aT.length + aF List.length x.Rows
def ag.fit (x : ag) : Prop := x.aW.length <= maxLen /\ x.aT.length <= maxLen /\ fits (fun l => l.length <= maxLen) x.Rows
abbrev ag.ty : Ty := .st [.i .i64, .i .i64, .i .i64, .i .i64, .l (.i .i64), .l (.i .i64), .l (.l (.i .i64))]
theorem ag.fz (o : Ob) (x : ag) : fzs (x.cs o) = x.cs .n := by simp only [ag.cs, fzs, T.fz, Z6u, Z6s, Z6q, Z6t]
theorem ag.fze (o : Ob) : (fun x => ((ag.el o) x).fz) = ag.el .n := by funext x; simp only [ag.el, T.fz, ag.fz]
theorem ag.of {ts : List T} (h : bE ag.ty ts) : ∃ x : ag, ts = x.cs .n /\ x.fit := by
 have h := Z7w h
 obtain ⟨_, _, rfl, h0, h⟩ := Z7x h
 obtain ⟨_, _, rfl, h1, h⟩ := Z7x h
 obtain ⟨_, _, rfl, h2, h⟩ := Z7x h
 obtain ⟨_, _, rfl, h3, h⟩ := Z7x h
 obtain ⟨_, _, rfl, h4, h⟩ := Z7x h
 obtain ⟨_, _, rfl, h5, h⟩ := Z7x h
 obtain ⟨_, _, rfl, h6, h⟩ := Z7x h
 obtain rfl := Z7y h
 obtain ⟨x0, rfl⟩ := Z7u h0
 obtain ⟨x1, rfl⟩ := Z7u h1
 obtain ⟨x2, rfl⟩ := Z7u h2
 obtain ⟨x3, rfl⟩ := Z7u h3
 obtain ⟨x4, rfl, f4⟩ := Z8q h4
 obtain ⟨x5, rfl, f5⟩ := Z8q h5
 obtain ⟨x6, rfl, f6⟩ := Z8r h6
 exact ⟨⟨x0, x1, x2, x3, x4, x5, x6⟩, rfl, ⟨f4, f5, f6⟩⟩
theorem ag.ofL {ts : List T} (h : bE (.l ag.ty) ts) : ∃ l : List ag, ts = [ag.ls .n l] /\ fits ag.fit l := Za0 (el := ag.el .n) h fun cs hc => by
 obtain ⟨x, rfl, hx⟩ := ag.of hc
 exact ⟨x, rfl, hx⟩
structure aa where
 Lo : Int
 Hi : Int
 deriving DecidableEq, Inhabited
def aa.cs (o : Ob) (x : aa) : List T := [iT x.Lo, iT x.Hi]
def aa.el (o : Ob) (x : aa) : T := .a (x.cs o)
abbrev aa.ls (o : Ob) (l : List aa) : T := .l o 2 (l.map (aa.el o))
def aa.ae (x : aa) : Nat := 0
def aa.fit (x : aa) : Prop := True
abbrev aa.ty : Ty := .st [.i .i64, .i .i64]
theorem aa.fz (o : Ob) (x : aa) : fzs (x.cs o) = x.cs .n := by simp only [aa.cs, fzs, T.fz, Z6u, Z6s, Z6q, Z6t]
theorem aa.fze (o : Ob) : (fun x => ((aa.el o) x).fz) = aa.el .n := by funext x; simp only [aa.el, T.fz, aa.fz]
theorem aa.of {ts : List T} (h : bE aa.ty ts) : ∃ x : aa, ts = x.cs .n /\ x.fit := by
 have h := Z7w h
 obtain ⟨_, _, rfl, h0, h⟩ := Z7x h
 obtain ⟨_, _, rfl, h1, h⟩ := Z7x h
 obtain rfl := Z7y h
 obtain ⟨x0, rfl⟩ := Z7u h0
 obtain ⟨x1, rfl⟩ := Z7u h1
 exact ⟨⟨x0, x1⟩, rfl, trivial⟩
theorem aa.ofL {ts : List T} (h : bE (.l aa.ty) ts) : ∃ l : List aa, ts = [aa.ls .n l] /\ fits aa.fit l := Za0 (el := aa.el .n) h fun cs hc => by
 obtain ⟨x, rfl, hx⟩ := aa.of hc
 exact ⟨x, rfl, hx⟩
structure ap where
 Seq : Int
 mq : Int
 Key : Int
 cJ : Int
 aj : ag
 deriving DecidableEq, Inhabited
def ap.cs (o : Ob) (x : ap) : List T := [iT x.Seq, iT x.mq, iT x.Key, iT x.cJ, iT x.aj.Count, iT x.aj.Sum, iT x.aj.Min, iT x.aj.Max, ints o x.aj.aW, ints o x.aj.aT, dE.lss o x.aj.Rows]
def ap.el (o : Ob) (x : ap) : T := .a (x.cs o)
abbrev ap.ls (o : Ob) (l : List ap) : T := .l o 11 (l.map (ap.el o))
def ap.ae (x : ap) : Nat := x.aj.ae
def ap.fit (x : ap) : Prop := x.aj.fit
abbrev ap.ty : Ty := .st [.i .i64, .i .i64, .i .i64, .i .i64, ag.ty]
theorem ap.fz (o : Ob) (x : ap) : fzs (x.cs o) = x.cs .n := by simp only [ap.cs, fzs, T.fz, Z6u, Z6s, Z6q, Z6t]
theorem ap.fze (o : Ob) : (fun x => ((ap.el o) x).fz) = ap.el .n := by funext x; simp only [ap.el, T.fz, ap.fz]
theorem ap.of {ts : List T} (h : bE ap.ty ts) : ∃ x : ap, ts = x.cs .n /\ x.fit := by
 have h := Z7w h
 obtain ⟨_, _, rfl, h0, h⟩ := Z7x h
 obtain ⟨_, _, rfl, h1, h⟩ := Z7x h
 obtain ⟨_, _, rfl, h2, h⟩ := Z7x h
 obtain ⟨_, _, rfl, h3, h⟩ := Z7x h
 obtain ⟨_, _, rfl, h4, h⟩ := Z7x h
 obtain rfl := Z7y h
 obtain ⟨x0, rfl⟩ := Z7u h0
 obtain ⟨x1, rfl⟩ := Z7u h1
 obtain ⟨x2, rfl⟩ := Z7u h2
 obtain ⟨x3, rfl⟩ := Z7u h3
 obtain ⟨x4, rfl, f4⟩ := ag.of h4
 exact ⟨⟨x0, x1, x2, x3, x4⟩, rfl, f4⟩
theorem ap.ofL {ts : List T} (h : bE (.l ap.ty) ts) : ∃ l : List ap, ts = [ap.ls .n l] /\ fits ap.fit l := Za0 (el := ap.el .n) h fun cs hc => by
 obtain ⟨x, rfl, hx⟩ := ap.of hc
 exact ⟨x, rfl, hx⟩
structure ab where
 Key : Int
 cJ : Int
 Ids : List aa
 aj : ag
 deriving DecidableEq, Inhabited
def ab.cs (o : Ob) (x : ab) : List T := [iT x.Key, iT x.cJ, aa.ls o x.Ids, iT x.aj.Count, iT x.aj.Sum, iT x.aj.Min, iT x.aj.Max, ints o x.aj.aW, ints o x.aj.aT, dE.lss o x.aj.Rows]
def ab.el (o : Ob) (x : ab) : T := .a (x.cs o)
abbrev ab.ls (o : Ob) (l : List ab) : T := .l o 10 (l.map (ab.el o))
def ab.ae (x : ab) : Nat := x.Ids.length + x.aj.ae
def ab.fit (x : ab) : Prop := fits aa.fit x.Ids /\ x.aj.fit
abbrev ab.ty : Ty := .st [.i .i64, .i .i64, .l (aa.ty), ag.ty]
theorem ab.fz (o : Ob) (x : ab) : fzs (x.cs o) = x.cs .n := by simp only [ab.cs, fzs, T.fz, Z6u, aa.fze, Z6s, Z6q, Z6t]
theorem ab.fze (o : Ob) : (fun x => ((ab.el o) x).fz) = ab.el .n := by funext x; simp only [ab.el, T.fz, ab.fz]
theorem ab.of {ts : List T} (h : bE ab.ty ts) : ∃ x : ab, ts = x.cs .n /\ x.fit := by
 have h := Z7w h
 obtain ⟨_, _, rfl, h0, h⟩ := Z7x h
 obtain ⟨_, _, rfl, h1, h⟩ := Z7x h
 obtain ⟨_, _, rfl, h2, h⟩ := Z7x h
 obtain ⟨_, _, rfl, h3, h⟩ := Z7x h
 obtain rfl := Z7y h
 obtain ⟨x0, rfl⟩ := Z7u h0
 obtain ⟨x1, rfl⟩ := Z7u h1
 obtain ⟨x2, rfl, f2⟩ := aa.ofL h2
 obtain ⟨x3, rfl, f3⟩ := ag.of h3
 exact ⟨⟨x0, x1, x2, x3⟩, rfl, ⟨f2, f3⟩⟩
theorem ab.ofL {ts : List T} (h : bE (.l ab.ty) ts) : ∃ l : List ab, ts = [ab.ls .n l] /\ fits ab.fit l := Za0 (el := ab.el .n) h fun cs hc => by
 obtain ⟨x, rfl, hx⟩ := ab.of hc
 exact ⟨x, rfl, hx⟩
structure aU where
 Kind : Int
 BW : Int
 gp : Int
 cP : Int
 aJ : List aa
 Item : ap
 deriving DecidableEq, Inhabited
def aU.cs (o : Ob) (x : aU) : List T := [iT x.Kind, iT x.BW, iT x.gp, iT x.cP, aa.ls o x.aJ, iT x.Item.Seq, iT x.Item.mq, iT x.Item.Key, iT x.Item.cJ, iT x.Item.aj.Count, iT x.Item.aj.Sum, iT x.Item.aj.Min, iT x.Item.aj.Max, ints o x.Item.aj.aW, ints o x.Item.aj.aT, dE.lss o x.Item.aj.Rows]
def aU.el (o : Ob) (x : aU) : T := .a (x.cs o)
abbrev aU.ls (o : Ob) (l : List aU) : T := .l o 16 (l.map (aU.el o))
def aU.ae (x : aU) : Nat := x.aJ.length + x.Item.ae
def aU.fit (x : aU) : Prop := fits aa.fit x.aJ /\ x.Item.fit
abbrev aU.ty : Ty := .st [.i .i64, .i .i64, .i .i64, .i .i64, .l (aa.ty), ap.ty]
theorem aU.fz (o : Ob) (x : aU) : fzs (x.cs o) = x.cs .n := by simp only [aU.cs, fzs, T.fz, Z6u, aa.fze, Z6s, Z6q, Z6t]
theorem aU.fze (o : Ob) : (fun x => ((aU.el o) x).fz) = aU.el .n := by funext x; simp only [aU.el, T.fz, aU.fz]
theorem aU.of {ts : List T} (h : bE aU.ty ts) : ∃ x : aU, ts = x.cs .n /\ x.fit := by
 have h := Z7w h
 obtain ⟨_, _, rfl, h0, h⟩ := Z7x h
 obtain ⟨_, _, rfl, h1, h⟩ := Z7x h
 obtain ⟨_, _, rfl, h2, h⟩ := Z7x h
 obtain ⟨_, _, rfl, h3, h⟩ := Z7x h
 obtain ⟨_, _, rfl, h4, h⟩ := Z7x h
 obtain ⟨_, _, rfl, h5, h⟩ := Z7x h
 obtain rfl := Z7y h
 obtain ⟨x0, rfl⟩ := Z7u h0
 obtain ⟨x1, rfl⟩ := Z7u h1
 obtain ⟨x2, rfl⟩ := Z7u h2
 obtain ⟨x3, rfl⟩ := Z7u h3
 obtain ⟨x4, rfl, f4⟩ := aa.ofL h4
 obtain ⟨x5, rfl, f5⟩ := ap.of h5
 exact ⟨⟨x0, x1, x2, x3, x4, x5⟩, rfl, ⟨f4, f5⟩⟩
theorem aU.ofL {ts : List T} (h : bE (.l aU.ty) ts) : ∃ l : List aU, ts = [aU.ls .n l] /\ fits aU.fit l := Za0 (el := aU.el .n) h fun cs hc => by
 obtain ⟨x, rfl, hx⟩ := aU.of hc
 exact ⟨x, rfl, hx⟩
structure ak where
 Id : Int
 gp : Int
 Live : Bool
 cP : Int
 aX : List ap
 aJ : List aa
 Next : Int
 deriving DecidableEq, Inhabited
def ak.cs (o : Ob) (x : ak) : List T := [iT x.Id, iT x.gp, .b x.Live, iT x.cP, ap.ls o x.aX, aa.ls o x.aJ, iT x.Next]
def ak.el (o : Ob) (x : ak) : T := .a (x.cs o)
abbrev ak.ls (o : Ob) (l : List ak) : T := .l o 7 (l.map (ak.el o))
def ak.ae (x : ak) : Nat := aF ap.ae x.aX + x.aJ.length
def ak.fit (x : ak) : Prop := fits ap.fit x.aX /\ fits aa.fit x.aJ
abbrev ak.ty : Ty := .st [.i .i64, .i .i64, .b, .i .i64, .l (ap.ty), .l (aa.ty), .i .i64]
theorem ak.fz (o : Ob) (x : ak) : fzs (x.cs o) = x.cs .n := by simp only [ak.cs, fzs, T.fz, Z6u, ap.fze, aa.fze, Z6s, Z6q, Z6t]
theorem ak.fze (o : Ob) : (fun x => ((ak.el o) x).fz) = ak.el .n := by funext x; simp only [ak.el, T.fz, ak.fz]
theorem ak.of {ts : List T} (h : bE ak.ty ts) : ∃ x : ak, ts = x.cs .n /\ x.fit := by
 have h := Z7w h
 obtain ⟨_, _, rfl, h0, h⟩ := Z7x h
 obtain ⟨_, _, rfl, h1, h⟩ := Z7x h
 obtain ⟨_, _, rfl, h2, h⟩ := Z7x h
 obtain ⟨_, _, rfl, h3, h⟩ := Z7x h
 obtain ⟨_, _, rfl, h4, h⟩ := Z7x h
 obtain ⟨_, _, rfl, h5, h⟩ := Z7x h
 obtain ⟨_, _, rfl, h6, h⟩ := Z7x h
 obtain rfl := Z7y h
 obtain ⟨x0, rfl⟩ := Z7u h0
 obtain ⟨x1, rfl⟩ := Z7u h1
 obtain ⟨x2, rfl⟩ := Z7t h2
 obtain ⟨x3, rfl⟩ := Z7u h3
 obtain ⟨x4, rfl, f4⟩ := ap.ofL h4
 obtain ⟨x5, rfl, f5⟩ := aa.ofL h5
 obtain ⟨x6, rfl⟩ := Z7u h6
 exact ⟨⟨x0, x1, x2, x3, x4, x5, x6⟩, rfl, ⟨f4, f5⟩⟩
theorem ak.ofL {ts : List T} (h : bE (.l ak.ty) ts) : ∃ l : List ak, ts = [ak.ls .n l] /\ fits ak.fit l := Za0 (el := ak.el .n) h fun cs hc => by
 obtain ⟨x, rfl, hx⟩ := ak.of hc
 exact ⟨x, rfl, hx⟩
structure al where
 gp : Int
 cP : Int
 aJ : List aa
 fb : Int
 AA : Int
 deriving DecidableEq, Inhabited
def al.cs (o : Ob) (x : al) : List T := [iT x.gp, iT x.cP, aa.ls o x.aJ, iT x.fb, iT x.AA]
def al.el (o : Ob) (x : al) : T := .a (x.cs o)
abbrev al.ls (o : Ob) (l : List al) : T := .l o 5 (l.map (al.el o))
def al.ae (x : al) : Nat := x.aJ.length
def al.fit (x : al) : Prop := fits aa.fit x.aJ
abbrev al.ty : Ty := .st [.i .i64, .i .i64, .l (aa.ty), .i .i64, .i .i64]
theorem al.fz (o : Ob) (x : al) : fzs (x.cs o) = x.cs .n := by simp only [al.cs, fzs, T.fz, Z6u, aa.fze, Z6s, Z6q, Z6t]
theorem al.fze (o : Ob) : (fun x => ((al.el o) x).fz) = al.el .n := by funext x; simp only [al.el, T.fz, al.fz]
theorem al.of {ts : List T} (h : bE al.ty ts) : ∃ x : al, ts = x.cs .n /\ x.fit := by
 have h := Z7w h
 obtain ⟨_, _, rfl, h0, h⟩ := Z7x h
 obtain ⟨_, _, rfl, h1, h⟩ := Z7x h
 obtain ⟨_, _, rfl, h2, h⟩ := Z7x h
 obtain ⟨_, _, rfl, h3, h⟩ := Z7x h
 obtain ⟨_, _, rfl, h4, h⟩ := Z7x h
 obtain rfl := Z7y h
 obtain ⟨x0, rfl⟩ := Z7u h0
 obtain ⟨x1, rfl⟩ := Z7u h1
 obtain ⟨x2, rfl, f2⟩ := aa.ofL h2
 obtain ⟨x3, rfl⟩ := Z7u h3
 obtain ⟨x4, rfl⟩ := Z7u h4
 exact ⟨⟨x0, x1, x2, x3, x4⟩, rfl, f2⟩
theorem al.ofL {ts : List T} (h : bE (.l al.ty) ts) : ∃ l : List al, ts = [al.ls .n l] /\ fits al.fit l := Za0 (el := al.el .n) h fun cs hc => by
 obtain ⟨x, rfl, hx⟩ := al.of hc
 exact ⟨x, rfl, hx⟩
structure ai where
 Lst : List ab
 deriving DecidableEq, Inhabited
def ai.cs (o : Ob) (x : ai) : List T := [ab.ls o x.Lst]
def ai.el (o : Ob) (x : ai) : T := .a (x.cs o)
abbrev ai.ls (o : Ob) (l : List ai) : T := .l o 1 (l.map (ai.el o))
abbrev ai.lss (o : Ob) (l : List (List ai)) : T := .l o 1 (l.map (ai.ls o))
def ai.ae (x : ai) : Nat := aF ab.ae x.Lst
def ai.fit (x : ai) : Prop := fits ab.fit x.Lst
abbrev ai.ty : Ty := .st [.l (ab.ty)]
theorem ai.fz (o : Ob) (x : ai) : fzs (x.cs o) = x.cs .n := by simp only [ai.cs, fzs, T.fz, Z6u, ab.fze, Z6s, Z6q, Z6t]
theorem ai.fze (o : Ob) : (fun x => ((ai.el o) x).fz) = ai.el .n := by funext x; simp only [ai.el, T.fz, ai.fz]
theorem ai.fzl (o : Ob) : (fun l => ((ai.ls o) l).fz) = ai.ls .n := by funext x; simp only [ai.ls, T.fz, Z6u, ai.fze]
theorem ai.of {ts : List T} (h : bE ai.ty ts) : ∃ x : ai, ts = x.cs .n /\ x.fit := by
 have h := Z7w h
 obtain ⟨_, _, rfl, h0, h⟩ := Z7x h
 obtain rfl := Z7y h
 obtain ⟨x0, rfl, f0⟩ := ab.ofL h0
 exact ⟨⟨x0⟩, rfl, f0⟩
theorem ai.ofL {ts : List T} (h : bE (.l ai.ty) ts) : ∃ l : List ai, ts = [ai.ls .n l] /\ fits ai.fit l := Za0 (el := ai.el .n) h fun cs hc => by
 obtain ⟨x, rfl, hx⟩ := ai.of hc
 exact ⟨x, rfl, hx⟩
theorem ai.Lx {ts : List T} (h : bE (.l (.l ai.ty)) ts) : ∃ l : List (List ai), ts = [ai.lss .n l] /\ fits (fits ai.fit) l := Za0 (el := ai.ls .n) h fun cs hc => by
 obtain ⟨x, rfl, hx⟩ := ai.ofL hc
 exact ⟨x, rfl, hx⟩
structure au where
 At : Int
 BX : Bool
 Left : List Int
 deriving DecidableEq, Inhabited
def au.cs (o : Ob) (x : au) : List T := [iT x.At, .b x.BX, ints o x.Left]
def au.el (o : Ob) (x : au) : T := .a (x.cs o)
abbrev au.ls (o : Ob) (l : List au) : T := .l o 3 (l.map (au.el o))
def au.ae (x : au) : Nat := x.Left.length
def au.fit (x : au) : Prop := x.Left.length <= maxLen
abbrev au.ty : Ty := .st [.i .i64, .b, .l (.i .i64)]
theorem au.fz (o : Ob) (x : au) : fzs (x.cs o) = x.cs .n := by simp only [au.cs, fzs, T.fz, Z6u, Z6s, Z6q, Z6t]
theorem au.fze (o : Ob) : (fun x => ((au.el o) x).fz) = au.el .n := by funext x; simp only [au.el, T.fz, au.fz]
theorem au.of {ts : List T} (h : bE au.ty ts) : ∃ x : au, ts = x.cs .n /\ x.fit := by
 have h := Z7w h
 obtain ⟨_, _, rfl, h0, h⟩ := Z7x h
 obtain ⟨_, _, rfl, h1, h⟩ := Z7x h
 obtain ⟨_, _, rfl, h2, h⟩ := Z7x h
 obtain rfl := Z7y h
 obtain ⟨x0, rfl⟩ := Z7u h0
 obtain ⟨x1, rfl⟩ := Z7t h1
 obtain ⟨x2, rfl, f2⟩ := Z8q h2
 exact ⟨⟨x0, x1, x2⟩, rfl, f2⟩
theorem au.ofL {ts : List T} (h : bE (.l au.ty) ts) : ∃ l : List au, ts = [au.ls .n l] /\ fits au.fit l := Za0 (el := au.el .n) h fun cs hc => by
 obtain ⟨x, rfl, hx⟩ := au.of hc
 exact ⟨x, rfl, hx⟩
structure aN where
 Per : Int
 jM : Int
 mr : Int
 bY : List Int
 px : Int
 py : Int
 mw : Int
 Still : Int
 deriving DecidableEq, Inhabited
def aN.cs (o : Ob) (x : aN) : List T := [iT x.Per, iT x.jM, iT x.mr, ints o x.bY, iT x.px, iT x.py, iT x.mw, iT x.Still]
def aN.el (o : Ob) (x : aN) : T := .a (x.cs o)
abbrev aN.ls (o : Ob) (l : List aN) : T := .l o 8 (l.map (aN.el o))
def aN.ae (x : aN) : Nat := x.bY.length
def aN.fit (x : aN) : Prop := x.bY.length <= maxLen
abbrev aN.ty : Ty := .st [.i .i64, .i .i64, .i .i64, .l (.i .i64), .i .i64, .i .i64, .i .i64, .i .i64]
theorem aN.fz (o : Ob) (x : aN) : fzs (x.cs o) = x.cs .n := by simp only [aN.cs, fzs, T.fz, Z6u, Z6s, Z6q, Z6t]
theorem aN.fze (o : Ob) : (fun x => ((aN.el o) x).fz) = aN.el .n := by funext x; simp only [aN.el, T.fz, aN.fz]
theorem aN.of {ts : List T} (h : bE aN.ty ts) : ∃ x : aN, ts = x.cs .n /\ x.fit := by
 have h := Z7w h
 obtain ⟨_, _, rfl, h0, h⟩ := Z7x h
 obtain ⟨_, _, rfl, h1, h⟩ := Z7x h
 obtain ⟨_, _, rfl, h2, h⟩ := Z7x h
 obtain ⟨_, _, rfl, h3, h⟩ := Z7x h
 obtain ⟨_, _, rfl, h4, h⟩ := Z7x h
 obtain ⟨_, _, rfl, h5, h⟩ := Z7x h
 obtain ⟨_, _, rfl, h6, h⟩ := Z7x h
 obtain ⟨_, _, rfl, h7, h⟩ := Z7x h
 obtain rfl := Z7y h
 obtain ⟨x0, rfl⟩ := Z7u h0
 obtain ⟨x1, rfl⟩ := Z7u h1
 obtain ⟨x2, rfl⟩ := Z7u h2
 obtain ⟨x3, rfl, f3⟩ := Z8q h3
 obtain ⟨x4, rfl⟩ := Z7u h4
 obtain ⟨x5, rfl⟩ := Z7u h5
 obtain ⟨x6, rfl⟩ := Z7u h6
 obtain ⟨x7, rfl⟩ := Z7u h7
 exact ⟨⟨x0, x1, x2, x3, x4, x5, x6, x7⟩, rfl, f3⟩
theorem aN.ofL {ts : List T} (h : bE (.l aN.ty) ts) : ∃ l : List aN, ts = [aN.ls .n l] /\ fits aN.fit l := Za0 (el := aN.el .n) h fun cs hc => by
 obtain ⟨x, rfl, hx⟩ := aN.of hc
 exact ⟨x, rfl, hx⟩
structure ay where
 Gen : Int
 aL : ab
 deriving DecidableEq, Inhabited
def ay.cs (o : Ob) (x : ay) : List T := [iT x.Gen, iT x.aL.Key, iT x.aL.cJ, aa.ls o x.aL.Ids, iT x.aL.aj.Count, iT x.aL.aj.Sum, iT x.aL.aj.Min, iT x.aL.aj.Max, ints o x.aL.aj.aW, ints o x.aL.aj.aT, dE.lss o x.aL.aj.Rows]
def ay.el (o : Ob) (x : ay) : T := .a (x.cs o)
abbrev ay.ls (o : Ob) (l : List ay) : T := .l o 11 (l.map (ay.el o))
def ay.ae (x : ay) : Nat := x.aL.ae
def ay.fit (x : ay) : Prop := x.aL.fit
abbrev ay.ty : Ty := .st [.i .i64, ab.ty]
theorem ay.fz (o : Ob) (x : ay) : fzs (x.cs o) = x.cs .n := by simp only [ay.cs, fzs, T.fz, Z6u, aa.fze, Z6s, Z6q, Z6t]
theorem ay.fze (o : Ob) : (fun x => ((ay.el o) x).fz) = ay.el .n := by funext x; simp only [ay.el, T.fz, ay.fz]
theorem ay.of {ts : List T} (h : bE ay.ty ts) : ∃ x : ay, ts = x.cs .n /\ x.fit := by
 have h := Z7w h
 obtain ⟨_, _, rfl, h0, h⟩ := Z7x h
 obtain ⟨_, _, rfl, h1, h⟩ := Z7x h
 obtain rfl := Z7y h
 obtain ⟨x0, rfl⟩ := Z7u h0
 obtain ⟨x1, rfl, f1⟩ := ab.of h1
 exact ⟨⟨x0, x1⟩, rfl, f1⟩
theorem ay.ofL {ts : List T} (h : bE (.l ay.ty) ts) : ∃ l : List ay, ts = [ay.ls .n l] /\ fits ay.fit l := Za0 (el := ay.el .n) h fun cs hc => by
 obtain ⟨x, rfl, hx⟩ := ay.of hc
 exact ⟨x, rfl, hx⟩
structure ao where
 bP : aN
 lA : Int
 pz : Bool
 aO : List al
 Rows : List (List ai)
 bX : List au
 js : Int
 aH : List ab
 aY : List ay
 deriving DecidableEq, Inhabited
def ao.cs (o : Ob) (x : ao) : List T := [iT x.bP.Per, iT x.bP.jM, iT x.bP.mr, ints o x.bP.bY, iT x.bP.px, iT x.bP.py, iT x.bP.mw, iT x.bP.Still, iT x.lA, .b x.pz, al.ls o x.aO, ai.lss o x.Rows, au.ls o x.bX, iT x.js, ab.ls o x.aH, ay.ls o x.aY]
def ao.el (o : Ob) (x : ao) : T := .a (x.cs o)
abbrev ao.ls (o : Ob) (l : List ao) : T := .l o 16 (l.map (ao.el o))
def ao.ae (x : ao) : Nat := x.bP.ae + aF al.ae x.aO + aF (aF ai.ae) x.Rows + aF au.ae x.bX + aF ab.ae x.aH + aF ay.ae x.aY
def ao.fit (x : ao) : Prop := x.bP.fit /\ fits al.fit x.aO /\ fits (fits ai.fit) x.Rows /\ fits au.fit x.bX /\ fits ab.fit x.aH /\ fits ay.fit x.aY
abbrev ao.ty : Ty := .st [aN.ty, .i .i64, .b, .l (al.ty), .l (.l (ai.ty)), .l (au.ty), .i .i64, .l (ab.ty), .l (ay.ty)]
theorem ao.fz (o : Ob) (x : ao) : fzs (x.cs o) = x.cs .n := by simp only [ao.cs, fzs, T.fz, Z6u, ab.fze, ay.fze, ai.fze, al.fze, au.fze, Z6s, Z6q, Z6t]
theorem ao.fze (o : Ob) : (fun x => ((ao.el o) x).fz) = ao.el .n := by funext x; simp only [ao.el, T.fz, ao.fz]
theorem ao.of {ts : List T} (h : bE ao.ty ts) : ∃ x : ao, ts = x.cs .n /\ x.fit := by
 have h := Z7w h
 obtain ⟨_, _, rfl, h0, h⟩ := Z7x h
 obtain ⟨_, _, rfl, h1, h⟩ := Z7x h
 obtain ⟨_, _, rfl, h2, h⟩ := Z7x h
 obtain ⟨_, _, rfl, h3, h⟩ := Z7x h
 obtain ⟨_, _, rfl, h4, h⟩ := Z7x h
 obtain ⟨_, _, rfl, h5, h⟩ := Z7x h
 obtain ⟨_, _, rfl, h6, h⟩ := Z7x h
 obtain ⟨_, _, rfl, h7, h⟩ := Z7x h
 obtain ⟨_, _, rfl, h8, h⟩ := Z7x h
 obtain rfl := Z7y h
 obtain ⟨x0, rfl, f0⟩ := aN.of h0
 obtain ⟨x1, rfl⟩ := Z7u h1
 obtain ⟨x2, rfl⟩ := Z7t h2
 obtain ⟨x3, rfl, f3⟩ := al.ofL h3
 obtain ⟨x4, rfl, f4⟩ := ai.Lx h4
 obtain ⟨x5, rfl, f5⟩ := au.ofL h5
 obtain ⟨x6, rfl⟩ := Z7u h6
 obtain ⟨x7, rfl, f7⟩ := ab.ofL h7
 obtain ⟨x8, rfl, f8⟩ := ay.ofL h8
 exact ⟨⟨x0, x1, x2, x3, x4, x5, x6, x7, x8⟩, rfl, ⟨f0, f3, f4, f5, f7, f8⟩⟩
theorem ao.ofL {ts : List T} (h : bE (.l ao.ty) ts) : ∃ l : List ao, ts = [ao.ls .n l] /\ fits ao.fit l := Za0 (el := ao.el .n) h fun cs hc => by
 obtain ⟨x, rfl, hx⟩ := ao.of hc
 exact ⟨x, rfl, hx⟩
structure aB where
 To : Int
 Bytes : List UInt8
 y6 : Bool
 deriving DecidableEq, Inhabited
def aB.cs (o : Ob) (x : aB) : List T := [iT x.To, bytes o x.Bytes, .b x.y6]
def aB.el (o : Ob) (x : aB) : T := .a (x.cs o)
abbrev aB.ls (o : Ob) (l : List aB) : T := .l o 3 (l.map (aB.el o))
def aB.ae (x : aB) : Nat := x.Bytes.length
def aB.fit (x : aB) : Prop := x.Bytes.length <= maxLen
abbrev aB.ty : Ty := .st [.i .i64, .l (.i .u8), .b]
theorem aB.fz (o : Ob) (x : aB) : fzs (x.cs o) = x.cs .n := by simp only [aB.cs, fzs, T.fz, Z6u, Z6s, Z6q, Z6t]
theorem aB.fze (o : Ob) : (fun x => ((aB.el o) x).fz) = aB.el .n := by funext x; simp only [aB.el, T.fz, aB.fz]
theorem aB.of {ts : List T} (h : bE aB.ty ts) : ∃ x : aB, ts = x.cs .n /\ x.fit := by
 have h := Z7w h
 obtain ⟨_, _, rfl, h0, h⟩ := Z7x h
 obtain ⟨_, _, rfl, h1, h⟩ := Z7x h
 obtain ⟨_, _, rfl, h2, h⟩ := Z7x h
 obtain rfl := Z7y h
 obtain ⟨x0, rfl⟩ := Z7u h0
 obtain ⟨x1, rfl, f1⟩ := Z22 h1
 obtain ⟨x2, rfl⟩ := Z7t h2
 exact ⟨⟨x0, x1, x2⟩, rfl, f1⟩
theorem aB.ofL {ts : List T} (h : bE (.l aB.ty) ts) : ∃ l : List aB, ts = [aB.ls .n l] /\ fits aB.fit l := Za0 (el := aB.el .n) h fun cs hc => by
 obtain ⟨x, rfl, hx⟩ := aB.of hc
 exact ⟨x, rfl, hx⟩
structure aG where
 bj : List ak
 bJ : ao
 Net : List aB
 deriving DecidableEq, Inhabited
def aG.cs (o : Ob) (x : aG) : List T := [ak.ls o x.bj, iT x.bJ.bP.Per, iT x.bJ.bP.jM, iT x.bJ.bP.mr, ints o x.bJ.bP.bY, iT x.bJ.bP.px, iT x.bJ.bP.py, iT x.bJ.bP.mw, iT x.bJ.bP.Still, iT x.bJ.lA, .b x.bJ.pz, al.ls o x.bJ.aO, ai.lss o x.bJ.Rows, au.ls o x.bJ.bX, iT x.bJ.js, ab.ls o x.bJ.aH, ay.ls o x.bJ.aY, aB.ls o x.Net]
def aG.el (o : Ob) (x : aG) : T := .a (x.cs o)
abbrev aG.ls (o : Ob) (l : List aG) : T := .l o 18 (l.map (aG.el o))
def aG.ae (x : aG) : Nat := aF ak.ae x.bj + x.bJ.ae + aF aB.ae x.Net
def aG.fit (x : aG) : Prop := fits ak.fit x.bj /\ x.bJ.fit /\ fits aB.fit x.Net
abbrev aG.ty : Ty := .st [.l (ak.ty), ao.ty, .l (aB.ty)]
theorem aG.fz (o : Ob) (x : aG) : fzs (x.cs o) = x.cs .n := by simp only [aG.cs, fzs, T.fz, Z6u, ak.fze, ab.fze, ay.fze, aB.fze, ai.fze, al.fze, au.fze, Z6s, Z6q, Z6t]
theorem aG.fze (o : Ob) : (fun x => ((aG.el o) x).fz) = aG.el .n := by funext x; simp only [aG.el, T.fz, aG.fz]
theorem aG.of {ts : List T} (h : bE aG.ty ts) : ∃ x : aG, ts = x.cs .n /\ x.fit := by
 have h := Z7w h
 obtain ⟨_, _, rfl, h0, h⟩ := Z7x h
 obtain ⟨_, _, rfl, h1, h⟩ := Z7x h
 obtain ⟨_, _, rfl, h2, h⟩ := Z7x h
 obtain rfl := Z7y h
 obtain ⟨x0, rfl, f0⟩ := ak.ofL h0
 obtain ⟨x1, rfl, f1⟩ := ao.of h1
 obtain ⟨x2, rfl, f2⟩ := aB.ofL h2
 exact ⟨⟨x0, x1, x2⟩, rfl, ⟨f0, f1, f2⟩⟩
theorem aG.ofL {ts : List T} (h : bE (.l aG.ty) ts) : ∃ l : List aG, ts = [aG.ls .n l] /\ fits aG.fit l := Za0 (el := aG.el .n) h fun cs hc => by
 obtain ⟨x, rfl, hx⟩ := aG.of hc
 exact ⟨x, rfl, hx⟩
structure bf where
 Kind : Int
 A : Int
 B : Int
 C : Int
 D : Int
 Lst : List Int
 deriving DecidableEq, Inhabited
def bf.cs (o : Ob) (x : bf) : List T := [iT x.Kind, iT x.A, iT x.B, iT x.C, iT x.D, ints o x.Lst]
def bf.el (o : Ob) (x : bf) : T := .a (x.cs o)
abbrev bf.ls (o : Ob) (l : List bf) : T := .l o 6 (l.map (bf.el o))
def bf.ae (x : bf) : Nat := x.Lst.length
def bf.fit (x : bf) : Prop := x.Lst.length <= maxLen
abbrev bf.ty : Ty := .st [.i .i64, .i .i64, .i .i64, .i .i64, .i .i64, .l (.i .i64)]
theorem bf.fz (o : Ob) (x : bf) : fzs (x.cs o) = x.cs .n := by simp only [bf.cs, fzs, T.fz, Z6u, Z6s, Z6q, Z6t]
theorem bf.fze (o : Ob) : (fun x => ((bf.el o) x).fz) = bf.el .n := by funext x; simp only [bf.el, T.fz, bf.fz]
theorem bf.of {ts : List T} (h : bE bf.ty ts) : ∃ x : bf, ts = x.cs .n /\ x.fit := by
 have h := Z7w h
 obtain ⟨_, _, rfl, h0, h⟩ := Z7x h
 obtain ⟨_, _, rfl, h1, h⟩ := Z7x h
 obtain ⟨_, _, rfl, h2, h⟩ := Z7x h
 obtain ⟨_, _, rfl, h3, h⟩ := Z7x h
 obtain ⟨_, _, rfl, h4, h⟩ := Z7x h
 obtain ⟨_, _, rfl, h5, h⟩ := Z7x h
 obtain rfl := Z7y h
 obtain ⟨x0, rfl⟩ := Z7u h0
 obtain ⟨x1, rfl⟩ := Z7u h1
 obtain ⟨x2, rfl⟩ := Z7u h2
 obtain ⟨x3, rfl⟩ := Z7u h3
 obtain ⟨x4, rfl⟩ := Z7u h4
 obtain ⟨x5, rfl, f5⟩ := Z8q h5
 exact ⟨⟨x0, x1, x2, x3, x4, x5⟩, rfl, f5⟩
theorem bf.ofL {ts : List T} (h : bE (.l bf.ty) ts) : ∃ l : List bf, ts = [bf.ls .n l] /\ fits bf.fit l := Za0 (el := bf.el .n) h fun cs hc => by
 obtain ⟨x, rfl, hx⟩ := bf.of hc
 exact ⟨x, rfl, hx⟩
end Go.Wr
namespace Go.Wr
theorem w64 {n : Int} (h : -9223372036854775808 <= n /\ n <= 9223372036854775807) : IntKind.i64.wrap n = n := by rw [IntKind.wrap_i64]; omega
theorem aM {i : Nat} (h : i < 9223372036854775807) : IntKind.i64.wrap (↑i + 1) = ((i + 1 : Nat) : Int) := by rw [w64 (by omega)]; omega
theorem Zk1 {α β : Type} (l : List α) (f : α -> β) : sub (l.map f) 0 (l.map f).length = l.map f := by simp [sub, Y73]
theorem Zk0 (l : List T) : sub l 0 l.length = l := by simp [sub]
theorem Zar {α : Type} {l : List α} {f : α -> T} {i : Nat} {x : α} (h : l[i]? = some x) : (l.map f)[((i : Nat) : Int).toNat]? = some (f x) := by simp [h]
def inB (x lo hi : Int) : Bool := decide (lo <= x) && decide (x <= hi)
def left (n : Int) (b : Nat) : Int := if n < b then -1 else n - b
def Rng (n : Int) : Prop := -1 <= n /\ n <= 1048576
theorem Z9r {n : Int} {b : Nat} (h : Rng n) : Rng (left n b) := by unfold Rng left at *; split <;> omega
theorem Z9p {n : Int} {b c : Nat} (hn : Rng n) (h : decide (left n b < 0) = true) (hc : b <= c) : left n c = -1 := by
 simp only [decide_eq_true_eq] at h
 unfold left at *
 unfold Rng at hn
 split at h
 ·rw [if_pos (by omega)]
 ·omega
theorem Z9q {n : Int} {b : Nat} (hn : Rng n) (h : decide (left n b < 0) = false) : left n b = n - b /\ (b : Int) <= n := by
 simp only [decide_eq_false_iff_not] at h
 unfold left at *
 split at h
 ·omega
 ·rename_i h1; rw [if_neg h1]; exact ⟨rfl, by omega⟩
theorem Zlx {α : Type} {l : List α} {f : α -> T} {n : Int} (hn : Rng n) (hl : l.length <= maxLen) : IntKind.i64.wrap (n - (l.map f).length) = n - l.length := by
 unfold Rng at hn
 rw [Y45, w64 (by unfold maxLen at hl; omega)]
def pre {α : Type} (f : α -> Nat) (l : List α) (i : Nat) : Nat := ((l.take i).map f).sum
theorem Zda {α : Type} (f : α -> Nat) (l : List α) : pre f l 0 = 0 := by simp [pre]
theorem Zd9 {α : Type} {f : α -> Nat} {l : List α} {i : Nat} {x : α} (h : l[i]? = some x) : pre f l (i + 1) = pre f l i + f x := by
 unfold pre
 rw [Y70, h]
 simp
theorem Zd7 {α : Type} {f : α -> Nat} {l : List α} {i : Nat} (h : l.length <= i) : l.length + pre f l i = aF f l := by
 unfold pre aF
 rw [Y73 h]
theorem Zd8 {α : Type} {f : α -> Nat} {l : List α} {i : Nat} : l.length + pre f l i <= aF f l := by
 unfold pre aF
 have : ∀ (l : List Nat) (i : Nat), (l.take i).sum <= l.sum := by
  intro l
  induction l with
  | nil => intro i; simp
  | cons a l ih => intro i; cases i with
   | zero => simp
   | succ i => have := ih i; simp; omega
 have := this (l.map f) i
 rw [List.map_take]; omega
theorem Z3n {α : Type} {a b : List α} {i : Nat} {x : α} (h : a.take i = b.take i) (hx : a[i]? = some x) (hy : b[i]? = some x) : a.take (i + 1) = b.take (i + 1) := by
 rw [Y70, Y70, h, hx, hy]
theorem Zbn {α : Type} {a b : List α} {i : Nat} {x y : α} (hx : a[i]? = some x) (hy : b[i]? = some y) (h : x ≠ y) : a ≠ b := by
 intro e; subst e; rw [hx] at hy; cases hy; exact h rfl
theorem Zbo {α β : Type} {a b : List α} {f g : α -> β} (h : (((a.map f).length : Int) != (b.map g).length) = true) : a ≠ b := by
 intro e; subst e; simp at h
theorem Z3m {α β : Type} {a b : List α} {f g : α -> β} (h : (((a.map f).length : Int) != (b.map g).length) = false) : a.length = b.length := by
 simp at h; omega
theorem Z3l {α : Type} {a b : List α} {i : Nat} (h : a.take i = b.take i) (hl : a.length = b.length) (hi : a.length <= i) : a = b := by
 rwa [Y73 hi, Y73 (by omega)] at h
theorem Ly : (∀ sz es, T.lz (.l .y sz es) = .l .n sz (fzs es)) /\ (∀ sz es, T.lz (.l .n sz es) = .l .n sz es) /\ (∀ k n, T.lz (.i k n) = .i k n) /\ (∀ x, T.lz (.b x) = .b x) /\ (∀ x, T.lz (.s x) = .s x) /\ (∀ g env, T.lz (.f g env) = .f g env) /\ (∀ k n, T.fz (.i k n) = .i k n) /\ (∀ x, T.fz (.b x) = .b x) /\ (∀ x, T.fz (.s x) = .s x) /\ (∀ cs, T.fz (.a cs) = .a (fzs cs)) /\ (∀ o sz es, T.fz (.l o sz es) = .l .n sz (fzs es)) /\ (∀ g env, T.fz (.f g env) = .f g env) /\ (∀ t, T.fz (.p t) = .p t) /\ (T.fz .u = .u) /\ (fzs [] = []) /\ (∀ t ts, fzs (t :: ts) = t.fz :: fzs ts) /\ (∀ o, (fun x => (ag.el o x).fz) = ag.el .n) /\ (∀ o x, fzs (ag.cs o x) = ag.cs .n x) /\ (∀ o, (fun x => (aa.el o x).fz) = aa.el .n) /\ (∀ o x, fzs (aa.cs o x) = aa.cs .n x) /\ (∀ o, (fun x => (ap.el o x).fz) = ap.el .n) /\ (∀ o x, fzs (ap.cs o x) = ap.cs .n x) /\ (∀ o, (fun x => (ab.el o x).fz) = ab.el .n) /\ (∀ o x, fzs (ab.cs o x) = ab.cs .n x) /\ (∀ o, (fun x => (aU.el o x).fz) = aU.el .n) /\ (∀ o x, fzs (aU.cs o x) = aU.cs .n x) /\ (∀ o, (fun x => (ak.el o x).fz) = ak.el .n) /\ (∀ o x, fzs (ak.cs o x) = ak.cs .n x) /\ (∀ o, (fun x => (al.el o x).fz) = al.el .n) /\ (∀ o x, fzs (al.cs o x) = al.cs .n x) /\ (∀ o, (fun x => (ai.el o x).fz) = ai.el .n) /\ (∀ o x, fzs (ai.cs o x) = ai.cs .n x) /\ (∀ o, (fun x => (au.el o x).fz) = au.el .n) /\ (∀ o x, fzs (au.cs o x) = au.cs .n x) /\ (∀ o, (fun x => (aN.el o x).fz) = aN.el .n) /\ (∀ o x, fzs (aN.cs o x) = aN.cs .n x) /\ (∀ o, (fun x => (ay.el o x).fz) = ay.el .n) /\ (∀ o x, fzs (ay.cs o x) = ay.cs .n x) /\ (∀ o, (fun x => (ao.el o x).fz) = ao.el .n) /\ (∀ o x, fzs (ao.cs o x) = ao.cs .n x) /\ (∀ o, (fun x => (aB.el o x).fz) = aB.el .n) /\ (∀ o x, fzs (aB.cs o x) = aB.cs .n x) /\ (∀ o, (fun x => (aG.el o x).fz) = aG.el .n) /\ (∀ o x, fzs (aG.cs o x) = aG.cs .n x) /\ (∀ o, (fun x => (bf.el o x).fz) = bf.el .n) /\ (∀ o x, fzs (bf.cs o x) = bf.cs .n x) := ⟨fun _ _ => rfl, fun _ _ => rfl, fun _ _ => rfl, fun _ => rfl, fun _ => rfl, fun _ _ => rfl, fun _ _ => rfl, fun _ => rfl, fun _ => rfl, fun _ => rfl, fun _ _ _ => rfl, fun _ _ => rfl, fun _ => rfl, rfl, rfl, fun _ _ => rfl, ag.fze, ag.fz, aa.fze, aa.fz, ap.fze, ap.fz, ab.fze, ab.fz, aU.fze, aU.fz, ak.fze, ak.fz, al.fze, al.fz, ai.fze, ai.fz, au.fze, au.fz, aN.fze, aN.fz, ay.fze, ay.fz, ao.fze, ao.fz, aB.fze, aB.fz, aG.fze, aG.fz, bf.fze, bf.fz⟩
theorem fzl : (∀ {α : Type} (f : α -> T) (l : List α), fzs (l.map f) = l.map fun x => (f x).fz) /\ (∀ {α β : Type} (l : List α) (f : α -> β), sub (l.map f) 0 (l.map f).length = l.map f) /\ ((∀ sz es, T.lz (.l .y sz es) = .l .n sz (fzs es)) /\ (∀ sz es, T.lz (.l .n sz es) = .l .n sz es) /\ (∀ k n, T.lz (.i k n) = .i k n) /\ (∀ x, T.lz (.b x) = .b x) /\ (∀ x, T.lz (.s x) = .s x) /\ (∀ g env, T.lz (.f g env) = .f g env) /\ (∀ k n, T.fz (.i k n) = .i k n) /\ (∀ x, T.fz (.b x) = .b x) /\ (∀ x, T.fz (.s x) = .s x) /\ (∀ cs, T.fz (.a cs) = .a (fzs cs)) /\ (∀ o sz es, T.fz (.l o sz es) = .l .n sz (fzs es)) /\ (∀ g env, T.fz (.f g env) = .f g env) /\ (∀ t, T.fz (.p t) = .p t) /\ (T.fz .u = .u) /\ (fzs [] = []) /\ (∀ t ts, fzs (t :: ts) = t.fz :: fzs ts) /\ (∀ o, (fun x => (ag.el o x).fz) = ag.el .n) /\ (∀ o x, fzs (ag.cs o x) = ag.cs .n x) /\ (∀ o, (fun x => (aa.el o x).fz) = aa.el .n) /\ (∀ o x, fzs (aa.cs o x) = aa.cs .n x) /\ (∀ o, (fun x => (ap.el o x).fz) = ap.el .n) /\ (∀ o x, fzs (ap.cs o x) = ap.cs .n x) /\ (∀ o, (fun x => (ab.el o x).fz) = ab.el .n) /\ (∀ o x, fzs (ab.cs o x) = ab.cs .n x) /\ (∀ o, (fun x => (aU.el o x).fz) = aU.el .n) /\ (∀ o x, fzs (aU.cs o x) = aU.cs .n x) /\ (∀ o, (fun x => (ak.el o x).fz) = ak.el .n) /\ (∀ o x, fzs (ak.cs o x) = ak.cs .n x) /\ (∀ o, (fun x => (al.el o x).fz) = al.el .n) /\ (∀ o x, fzs (al.cs o x) = al.cs .n x) /\ (∀ o, (fun x => (ai.el o x).fz) = ai.el .n) /\ (∀ o x, fzs (ai.cs o x) = ai.cs .n x) /\ (∀ o, (fun x => (au.el o x).fz) = au.el .n) /\ (∀ o x, fzs (au.cs o x) = au.cs .n x) /\ (∀ o, (fun x => (aN.el o x).fz) = aN.el .n) /\ (∀ o x, fzs (aN.cs o x) = aN.cs .n x) /\ (∀ o, (fun x => (ay.el o x).fz) = ay.el .n) /\ (∀ o x, fzs (ay.cs o x) = ay.cs .n x) /\ (∀ o, (fun x => (ao.el o x).fz) = ao.el .n) /\ (∀ o x, fzs (ao.cs o x) = ao.cs .n x) /\ (∀ o, (fun x => (aB.el o x).fz) = aB.el .n) /\ (∀ o x, fzs (aB.cs o x) = aB.cs .n x) /\ (∀ o, (fun x => (aG.el o x).fz) = aG.el .n) /\ (∀ o x, fzs (aG.cs o x) = aG.cs .n x) /\ (∀ o, (fun x => (bf.el o x).fz) = bf.el .n) /\ (∀ o x, fzs (bf.cs o x) = bf.cs .n x)) := ⟨@Z6u, @Zk1, Ly⟩
end Go.Wr
namespace Go.Wr
def bV (n : Nat) (p : Nat -> Bool) : Bool := (List.range n).all p
theorem Zf {n : Nat} {p : Nat -> Bool} (h : ∀ j, j < n -> p j = true) : bV n p = true := by
 unfold bV
 rw [Y18]
 intro j hj
 exact h j (Y64.1 hj)
theorem Ze {n i : Nat} {p : Nat -> Bool} (hi : i < n) (h : p i = false) : bV n p = false := by
 rw [Y6]
 intro h2
 have := Y18.1 h2 i (Y64.2 hi)
 rw [h] at this; cases this
theorem Zd {n : Nat} {p : Nat -> Bool} : bV n p = true <-> ∀ j, j < n -> p j = true := by
 constructor
 ·intro h j hj
  exact Y18.1 h j (Y64.2 hj)
 ·exact Zf
theorem Zl8 {p : Nat -> Bool} {i : Nat} (h : ∀ j, j < i -> p j = true) (hi : p i = true) : ∀ j, j < i + 1 -> p j = true := fun j hj => by
 rcases Nat.lt_succ_iff_lt_or_eq.1 hj with h1 | h1
 ·exact h j h1
 ·exact h1 ▸ hi
theorem Zc {n : Nat} {p q : Nat -> Bool} (h : ∀ j, j < n -> p j = q j) : bV n p = bV n q := by
 rw [Y7, Zd, Zd]
 exact ⟨fun h2 j hj => h j hj ▸ h2 j hj, fun h2 j hj => (h j hj).symm ▸ h2 j hj⟩
theorem Zkj {α : Type} {l : List α} {p : α -> Bool} {i : Nat} {x : α} (h : (l.take i).all p = true) (hx : l[i]? = some x) (hp : p x = true) : (l.take (i + 1)).all p = true := by
 rw [List.take_succ_eq_append_getElem (Y36.1 hx).1, List.all_append, h]
 obtain ⟨hl, rfl⟩ := Y36.1 hx
 simp [hp]
theorem Zbs {α : Type} {l : List α} {p : α -> Bool} {i : Nat} {x : α} (hx : l[i]? = some x) (hp : p x = false) : l.all p = false := by
 rw [Y6]
 intro h
 have := Y18.1 h x (Y62 hx)
 rw [hp] at this; cases this
theorem Zkl {α : Type} {l : List α} {p : α -> Bool} (h : (l.take l.length).all p = true) : l.all p = true := by
 rwa [Y72] at h
def jf (l : List Int) (lo hi : Int) : Bool := decide (l.length = 3) && l.all (inB · lo hi)
def aN.ok (c : aN) : Bool := inB c.Per 1 8 && inB c.jM 1 60 && inB c.mr 1 10 && jf c.bY 1 4 && inB c.px 1 100 && inB c.py 1 20 && inB c.mw 0 20 && inB c.Still 1 50
def dk (a s : Int) : Int := if inB a 0 2 && inB s 1 60 then 100 * a + s else -1
def fZ (s : List aa) (i : Nat) : Bool := match s[i]? with
 | none => false
 | some x => inB x.Lo 0 9999 && inB x.Hi x.Lo 9999 && (match i with
  | 0 => true
  | k + 1 => match s[k]? with
   | some p => !decide (x.Lo <= p.Hi + 1)
   | none => false)
def cf (s : List aa) : Bool := bV s.length (fZ s)
def dg (s : List aa) (n : Int) : Bool := s.any fun x => inB n x.Lo x.Hi
def cA (x y : aa) : Bool := !(decide (x.Lo <= y.Hi) && decide (y.Lo <= x.Hi))
def cD (a b : List aa) : Bool := cf a && cf b && a.all fun x => b.all fun y => cA x y
def bS (s : List aa) : Int := (s.map fun x => x.Hi - x.Lo + 1).sum
def cK (s : List aa) : Int := if cf s then bS s else 0
def ez (s : List aa) (lo hi : Int) : Bool := cf s && s.all fun x => decide (lo <= x.Lo) && decide (x.Hi <= hi)
structure bQ (s : List aa) : Prop where
 lo : ∀ x ∈ s, 0 <= x.Lo /\ x.Lo <= x.Hi /\ x.Hi <= 9999
 ord : s.Pairwise fun x y => x.Hi + 1 < y.Lo
theorem Ziv (s : List aa) : cf s = true <-> bQ s := by
 unfold cf
 rw [Zd]
 constructor
 ·intro h
  have hb : ∀ (i : Nat) x, s[i]? = some x -> 0 <= x.Lo /\ x.Lo <= x.Hi /\ x.Hi <= 9999 := fun i x hx => by
   have := h i (Y36.1 hx).1
   simp only [fZ, hx, inB, Y2, decide_eq_true_eq] at this
   omega
  have BY : ∀ (i : Nat) x y, s[i]? = some x -> s[i + 1]? = some y -> x.Hi + 1 < y.Lo := fun i x y hx hy => by
   have := h (i + 1) (Y36.1 hy).1
   simp only [fZ, hx, hy, inB, Y2, decide_eq_true_eq, Y11, decide_eq_false_iff_not] at this
   omega
  refine ⟨fun x hx => ?_, ?_⟩
  ·obtain ⟨i, hi⟩ := Y59.1 hx
   exact hb i x hi
  ·rw [Y68]
   intro i j hi hj hij
   obtain ⟨d, rfl⟩ : ∃ d, j = i + 1 + d := ⟨j - i - 1, by omega⟩
   induction d with
   | zero => exact BY i _ _ (Y34 hi) (Y34 hj)
   | succ d ih =>
    have h1 := ih (by omega) (by omega)
    have h2 := BY (i + 1 + d) _ _ (Y34 (by omega)) (Y34 hj)
    have h3 := hb (i + 1 + d) _ (Y34 (by omega))
    omega
 ·intro h j hj
  have hx := Y34 hj
  have h1 := h.lo _ (Y62 hx)
  simp only [fZ, hx, inB, Y2, decide_eq_true_eq]
  refine ⟨⟨⟨by omega, by omega⟩, by omega, by omega⟩, ?_⟩
  cases j with
  | zero => rfl
  | succ k =>
   have hk : k < s.length := by omega
   have h2 := Y68.1 h.ord k (k + 1) hk hj (by omega)
   simp only [Y34 hk, Y11, decide_eq_false_iff_not]
   omega
def jt (l : List Int) (n : Nat) (jg : Int) (z : Bool) : Bool := decide (l.length = n) && l.all fun x => inB x 0 jg && !(z && x != 0)
def ag.ok (x : ag) : Bool :=
 inB x.Count 0 1000000000 && inB x.Sum 0 1000000000 && inB x.Min 0 1000000 && inB x.Max 0 1000000 && decide (x.Min <= x.Max) && decide (x.Rows.length = 2) &&
 !(x.Count == 0 && (x.Sum != 0 || x.Max != 0)) && jt x.aW 8 1000000000 (x.Count == 0) && jt x.aT 8 17 (x.Count == 0) && x.Rows.all fun r => jt r 4 1000000000 (x.Count == 0)
def ab.ok (e : ab) : Bool := inB e.Key 0 4 && inB e.cJ 0 20 && cf e.Ids && decide (e.Ids ≠ []) && e.aj.ok
def ej (l : List ab) (i : Nat) : Bool := match l[i]? with
 | none => false
 | some e => e.ok && (l.take i).all fun o => cD e.Ids o.Ids
def ck (l : List ab) : Bool := bV l.length (ej l)
def ai.ok (r : ai) : Bool := decide (r.Lst.length <= 24) && ck r.Lst
def iE (a b : ab) : Bool := decide (a.Key < b.Key) || (a.Key == b.Key && decide (a.cJ < b.cJ))
def ik (l : List ay) (key CO : Int) : Nat := l.countP fun o => o.aL.Key == key && o.aL.cJ == CO
def cX (out : List aa) (x : aa) : List aa := match out.getLast? with
 | some p => if x.Lo <= p.Hi + 1 then out.dropLast ++ [⟨p.Lo, max p.Hi x.Hi⟩] else out ++ [x]
 | none => [x]
def ed (l : List aa) : List aa := (dQ (l.map fun x => (x.Lo, x.Hi))).map fun p => ⟨p.1, p.2⟩
def eM (l : List aa) : List aa := (ed l).foldl cX []
def cz (l : List ab) : List aa := eM (l.flatMap ab.Ids)
structure eN where
 out : List aa
 done : Bool
 x : aa
def ch (p : eN) (y : aa) : eN :=
 if y.Hi + 1 < p.x.Lo then { p with out := p.out ++ [y] }
 else if y.Lo > p.x.Hi + 1 then (if p.done then { p with out := p.out ++ [y] } else { p with out := p.out ++ [p.x, y], done := true })
 else { p with x := ⟨min p.x.Lo y.Lo, max p.x.Hi y.Hi⟩ }
def cT (s : List aa) (x : aa) : List aa := let p := s.foldl ch ⟨[], false, x⟩; if p.done then p.out else p.out ++ [p.x]
def du (a b : List aa) : List aa := b.foldl cT a
def al.ok (s : al) (per : Int) : Bool := inB per 1 8 && inB s.gp 0 1000 && inB s.cP 0 60 && ez s.aJ 1 s.cP && inB s.fb 0 (cK s.aJ) && decide (s.cP <= s.fb + per) && inB s.AA 0 1000000
def au.ok (t : au) : Bool := inB t.At 0 2 && jf t.Left 0 1000
def cE (ids : List aa) (a : Int) : Int := (ids.map fun x => max (min x.Hi (100 * a + 60) - max x.Lo (100 * a + 1) + 1) 0).sum
def dx (h : ao) : List ab := (h.Rows.map fun rs => (rs.map ai.Lst).flatten).flatten
def ct (h : ao) : List ab := h.aH ++ h.aY.map ay.aL
theorem Z5w {α : Type} {f : α -> T} (h : ∀ x, (f x).flat = true) (l : List α) : eE (l.map f) = true := by
 induction l with
 | nil => rfl
 | cons x l ih => simp [eE, h x, ih]
theorem Zc8 {s : List aa} {x : aa} (hx : s[0]? = some x) : fZ s 0 = (inB x.Lo 0 9999 && inB x.Hi x.Lo 9999) := by simp [fZ, hx]
theorem Zc7 {s : List aa} {k : Nat} {x p : aa} (hx : s[k + 1]? = some x) (hp : s[k]? = some p) : fZ s (k + 1) = (inB x.Lo 0 9999 && inB x.Hi x.Lo 9999 && !decide (x.Lo <= p.Hi + 1)) := by simp [fZ, hx, hp]
theorem Zc6 {s : List aa} {k : Nat} {p : aa} (hp : s[k]? = some p) (h : fZ s k = true) : 0 <= p.Lo /\ p.Lo <= p.Hi /\ p.Hi <= 9999 := by
 simp only [fZ, hp, inB, Y2, decide_eq_true_eq] at h
 omega
theorem Zly {k : Nat} (h : k <= 4194304) : IntKind.i64.wrap (((k + 1 : Nat) : Int) - 1) = k := by rw [w64 (by omega)]; omega
theorem Zit {s : List aa} (h : cf s = true) {x : aa} (hx : x ∈ s) : 0 <= x.Lo /\ x.Lo <= x.Hi /\ x.Hi <= 9999 := ((Ziv s).1 h).lo x hx
theorem Zp {α : Type} {f : α -> T} {l : List α} (hl : l.length <= 4194304) : ([] : List T).length + (l.map f).length < aS := by simp [aS]; omega
theorem bt {a b : Bool} (h : a = b) : (⟨[.one (.b a)], []⟩ : Out) = ⟨[.one (.b b)], []⟩ := by rw [h]
theorem lX {a b : Int} (h : a = b) : (⟨[.one (iT a)], []⟩ : Out) = ⟨[.one (iT b)], []⟩ := by rw [h]
theorem iN4 (n : Nat) : decide ((n : Int) = 4) = decide (n = 4) := by rw [Y7]; simp; omega
theorem iN8 (n : Nat) : decide ((n : Int) = 8) = decide (n = 8) := by rw [Y7]; simp; omega
theorem iN3 (n : Nat) : decide ((n : Int) = 3) = decide (n = 3) := by rw [Y7]; simp; omega
theorem iN : (∀ n : Nat, decide ((n : Int) = 4) = decide (n = 4)) /\ (∀ n : Nat, decide ((n : Int) = 8) = decide (n = 8)) := ⟨iN4, iN8⟩
theorem Zq {α β : Type} {f : α -> T} {g : β -> T} {l : List α} {l2 : List β} (hl : l.length + l2.length <= 4194304) : (l.map f).length + (l2.map g).length < aS := by simp [aS]; omega
theorem Zr {α : Type} {f : α -> T} {l : List α} {a b c d : T} (hl : l.length <= 4194304) : (l.map f).length + [a, b, c, d].length < aS := by simp [aS]; omega
theorem Zbj {o : Ob} {sz : Nat} {l : List T} {i : Nat} {t : T} (h : l[i]? = some t) : (T.l o sz l).nav [0 + Int.toNat (i : Int)] = some t := by
 simp [T.nav, T.kid, h]
theorem Zcs {α : Type} {f : α -> T} {l : List α} {i : Nat} (h : i < l.length) : (i : Int) < ((l.map f).length : Nat) := by rw [Y45]; omega
theorem Zk9 {l : List Int} {i : Nat} {x : Int} (h : l[i]? = some x) : (l.take (i + 1)).sum = (l.take i).sum + x := by
 rw [Y70, h]; simp
theorem Z5u {α β : Type} {f : α -> List β} {l : List α} {i : Nat} {x : α} (h : l[i]? = some x) : ((l.take (i + 1)).map f).flatten = ((l.take i).map f).flatten ++ f x := by
 rw [Y70, h]; simp
theorem Z5o {α β : Type} {f : α -> List β} {l : List α} {i : Nat} {x : α} (h : l[i]? = some x) : ((l.take i).map f).flatten.length + (f x).length <= (l.map f).flatten.length := by
 have h2 : l = l.take i ++ x :: l.drop (i + 1) := by
  obtain ⟨hi, rfl⟩ := Y36.1 h
  rw [List.getElem_cons_drop, Y71]
 have h3 := congrArg (fun l => (l.map f).flatten.length) h2
 simp only [Y49, Y50, List.flatten_append, Y27, Y41] at h3
 omega
theorem Z5q {α β : Type} {f : α -> List β} {g : α -> Nat} (h : ∀ x, (f x).length <= g x) (l : List α) : (l.map f).flatten.length <= aF g l := by
 unfold aF
 induction l with
 | nil => simp
 | cons x l ih => have := h x; simp only [Y50, Y27, Y41, Y69, Y42]; omega
def gq (rs : List ai) : List ab := (rs.map ai.Lst).flatten
theorem Zgq (h : ao) : dx h = (h.Rows.map gq).flatten := rfl
theorem Zh1 (rs : List ai) : (gq rs).length <= aF ai.ae rs := Z5q (fun r => Z1t _ _) rs
theorem Zgr (h : ao) : (dx h).length <= aF (aF ai.ae) h.Rows := Z5q Zh1 h.Rows
theorem Zat {α β : Type} {f : α -> β} {l : List α} {i : Nat} {x : α} (h : l[i]? = some x) : (l.take (i + 1)).map f = (l.take i).map f ++ [f x] := by
 rw [Y70, h]; simp
theorem Z9g {ob : Ob} {sz : Nat} {α : Type} {f : α -> T} (o : List α) (p : α) {k : Int} (hk : k = (o.length : Int)) : (T.l ob sz ((o ++ [p]).map f)).nav [0 + k.toNat] = some (f p) := by
 subst hk; simp [T.nav, T.kid]
theorem Z9h {sz : Nat} {α : Type} {f : α -> T} (o : List α) (p : α) {k : Int} (hk : k = (o.length : Int)) : (T.l .y sz ((o ++ [p]).map f)).cb [0 + k.toNat] = true := by
 subst hk; simp [T.cb, Ob.own]
theorem Z9i {ob : Ob} {sz : Nat} {α : Type} {f : α -> T} (o : List α) (p q : α) {k : Int} {x : T} (hk : k = (o.length : Int)) (hx : x = f q) : (T.l ob sz ((o ++ [p]).map f)).put [0 + k.toNat] x = T.l ob sz ((o ++ [q]).map f) := by
 subst hk hx; simp [T.put, T.kid, T.aZ]
theorem Z5y {α β : Type} {f : β -> α -> β} {b : β} {l : List α} {i : Nat} {x : α} (h : l[i]? = some x) : (l.take (i + 1)).foldl f b = f ((l.take i).foldl f b) x := by
 rw [Y70, h]; simp
theorem Zdp (x : aa) : cX [] x = [x] := rfl
theorem Zdr (o : List aa) (p x : aa) : cX (o ++ [p]) x = if x.Lo <= p.Hi + 1 then o ++ [⟨p.Lo, max p.Hi x.Hi⟩] else o ++ [p] ++ [x] := by
 simp [cX]
def HiR (x : aa) : Prop := -1 <= x.Hi /\ x.Hi <= 9999
theorem Zdn {o : List aa} {x : aa} (ho : ∀ y ∈ o, HiR y) (hx : HiR x) : ∀ y ∈ cX o x, HiR y := by
 rcases List.eq_nil_or_concat o with rfl | ⟨o, p, rfl⟩
 ·simpa [Zdp] using hx
 ·rw [List.concat_eq_append] at ho ⊢
  rw [Zdr]
  have hp := ho p (by simp)
  split
  ·intro y hy
   rcases Y52.1 hy with h | h
   ·exact ho y (by simp [h])
   ·simp only [Y65] at h; subst h
    unfold HiR at *; simp only; omega
  ·intro y hy
   rcases Y52.1 hy with h | h
   ·exact ho y h
   ·simp only [Y65] at h; subst h; exact hx
theorem Zdo (o : List aa) (x : aa) : (cX o x).length <= o.length + 1 := by
 rcases List.eq_nil_or_concat o with rfl | ⟨o, p, rfl⟩
 ·simp [Zdp]
 ·rw [List.concat_eq_append, Zdr]; split <;> simp
theorem Z6r (l : List ab) : fzs (l.map (ab.el .n)) = l.map (ab.el .n) := by rw [Z6u, ab.fze]
end Go.Wr
namespace Go.Wr
section
variable {id i : Nat} {o : aC} {d : Option Nat} {op : MOp} {os : List aC} {fs fs' : Fs} {l l1 l2 l3 : LS} {K : LS -> Prop} {s : Nat} {b want : Bool} {kl : List Nat}
theorem yo  (hK : EvX id (i + 1) os fs' l1 K) (h : (fs.hd (o.exec ((id * 1000 + i + 1) * 8))).ev l = some ((), l1) := by exact rfl) (hf : fs.tlK fun f => f = fs' := by exact rfl) : EvX id i (o :: os) fs l K := zo h hf hK
theorem yy  (h : EvX id i (⟨d, op, none, kl⟩ :: os) fs l K) (hr : fs.has s = true := by exact rfl) (hg : l.get s = .x (.b b) := by exact rfl) (ht : b = want := by with_reducible assumption) : EvX id i (⟨d, op, some (s, want), kl⟩ :: os) fs l K := zy hr hg ht h
theorem ym  (h : EvX id (i + 1) os fs' l1 K) (hr : fs.has s = true := by exact rfl) (hg : l.get s = .x (.b b) := by exact rfl) (ht : b = !want := by with_reducible assumption) (h1 : (fs.hd ((bT d (.tup 0)).bind fun _ => forget kl)).ev l = some ((), l1) := by exact rfl) (hf : fs.tlK fun f => f = fs' := by exact rfl) : EvX id i (⟨d, op, some (s, want), kl⟩ :: os) fs l K := zm hr hg ht h1 hf h
theorem yp {c x y : Opd} {v : T} (h : EvX id (i + 1) os fs' l1 K) (hg : (fs.hd (raw ((id * 1000 + i + 1) * 8) c)).ev l = some (.x (.b b), l) := by exact rfl) (ht : b = want := by with_reducible assumption) (hx : (fs.hd (raw ((id * 1000 + i + 1) * 8) (bif want then x else y))).ev l = some (.x v, l) := by exact rfl) (h1 : (fs.hd ((bT d (.x v)).bind fun _ => forget kl)).ev l = some ((), l1) := by exact rfl) (hf : fs.tlK fun f => f = fs' := by exact rfl) : EvX id i (⟨d, .pick c x y, none, kl⟩ :: os) fs l K := zp hg ht hx h1 hf h
theorem yk {F : Fun} {args : List (Pass × Opd)} {hs : List Hand} {ags : List Arg} {q : Out} (g : Nat) (h2 : F ags = some q) (hK : EvX id (i + 1) os fs' l2 K) (h1 : (fs.hd (eh ((id * 1000 + i + 1) * 8) args [])).ev l = some (hs, l1) := by exact rfl) (ha : hs.map Hand.arg = ags := by exact rfl) (h3 : db hs q = true := by exact rfl) (h4 : (fs.hd ((dC ((id * 1000 + i + 1) * 8) d hs q).bind fun _ => forget kl)).ev l1 = some ((), l2) := by exact rfl) (hf : fs.tlK fun f => f = fs' := by exact rfl) : EvX id i (⟨d, .call g F args, none, kl⟩ :: os) fs l K := zk g h1 ha h2 h3 h4 hf hK
theorem yv {F : Fun} {args : List (Pass × Opd)} {hs : List Hand} {ags : List Arg} {q : Out} (g : Nat) (h2 : F ags = some q) (hK : EvX id (i + 1) os fs' l2 K) (h1 : (fs.hd (eh ((id * 1000 + i + 1) * 8) args [])).ev l = some (hs, l1) := by exact rfl) (ha : hs.map Hand.arg = ags := by (simp only [List.map, fzl]; exact rfl)) (h3 : db hs q = true := by exact rfl) (h4 : (fs.hd ((dC ((id * 1000 + i + 1) * 8) d hs q).bind fun _ => forget kl)).ev l1 = some ((), l2) := by exact rfl) (hf : fs.tlK fun f => f = fs' := by exact rfl) : EvX id i (⟨d, .call g F args, none, kl⟩ :: os) fs l K := zk g h1 ha h2 h3 h4 hf hK
theorem yw {F : Fun} {args : List (Pass × Opd)} {hs : List Hand} {ags : List Arg} {q : Out} (g : Nat) (h2 : F ags = some q) (h3 : db hs q = true) (hK : EvX id (i + 1) os fs' l2 K) (h1 : (fs.hd (eh ((id * 1000 + i + 1) * 8) args [])).ev l = some (hs, l1) := by exact rfl) (ha : hs.map Hand.arg = ags := by (simp only [List.map, fzl]; exact rfl)) (h4 : (fs.hd ((dC ((id * 1000 + i + 1) * 8) d hs q).bind fun _ => forget kl)).ev l1 = some ((), l2) := by exact rfl) (hf : fs.tlK fun f => f = fs' := by exact rfl) : EvX id i (⟨d, .call g F args, none, kl⟩ :: os) fs l K := zk g h1 ha h2 h3 h4 hf hK
theorem yd {x : Opd} {eo : List (Nat × Fun)} {g : Nat} {env : List T} {F : Fun} {args : List (Pass × Opd)} {hs : List Hand} {ags : List Arg} {q : Out} (h2 : F ags = some q) (hK : EvX id (i + 1) os fs' l2 K) (h0 : (fs.hd (raw ((id * 1000 + i + 1) * 8) x)).ev l = some (.x (.f g env), l) := by exact rfl) (hc : eo.find? (fun c => c.1 == g) = some (g, F) := by exact rfl) (h1 : (fs.hd (eh ((id * 1000 + i + 1) * 8) args env)).ev l = some (hs, l1) := by exact rfl) (ha : hs.map Hand.arg = ags := by exact rfl) (h3 : db hs q = true := by exact rfl) (h4 : (fs.hd ((dC ((id * 1000 + i + 1) * 8) d hs q).bind fun _ => forget kl)).ev l1 = some ((), l2) := by exact rfl) (hf : fs.tlK fun f => f = fs' := by exact rfl) : EvX id i (⟨d, .dyn x eo args, none, kl⟩ :: os) fs l K := zd h0 hc h1 ha h2 h3 h4 hf hK
theorem yi {sz : Nat} {x ix : Opd} {k : IntKind} {n : Int} {es : List T} (t : T) (ht : es[n.toNat]? = some t) (h : EvX id (i + 1) os fs' l1 K) (h1 : (fs.hd (raw ((id * 1000 + i + 1) * 8) ix)).ev l = some (.x (.i k n), l) := by exact rfl) (h2 : (fs.hd (look ((id * 1000 + i + 1) * 8) x)).ev l = some (.x (.l .n sz es), l) := by exact rfl) (h0 : 0 <= n := by exact Y16 _) (h3 : (fs.hd ((bT d (.q t 0)).bind fun _ => forget kl)).ev l = some ((), l1) := by exact rfl) (hf : fs.tlK fun f => f = fs' := by exact rfl) : EvX id i (⟨d, .ia sz x ix, none, kl⟩ :: os) fs l K := zi t h1 h2 h0 ht h3 hf h
theorem yj {sz : Nat} {x ix : Opd} {k : IntKind} {n : Int} {es : List T} (t : T) (h0 : 0 <= n) (ht : es[n.toNat]? = some t) (h : EvX id (i + 1) os fs' l1 K) (h1 : (fs.hd (raw ((id * 1000 + i + 1) * 8) ix)).ev l = some (.x (.i k n), l) := by exact rfl) (h2 : (fs.hd (look ((id * 1000 + i + 1) * 8) x)).ev l = some (.x (.l .n sz es), l) := by exact rfl) (h3 : (fs.hd ((bT d (.q t 0)).bind fun _ => forget kl)).ev l = some ((), l1) := by exact rfl) (hf : fs.tlK fun f => f = fs' := by exact rfl) : EvX id i (⟨d, .ia sz x ix, none, kl⟩ :: os) fs l K := zi t h1 h2 h0 ht h3 hf h
theorem yx {sz : Nat} {x ix : Opd} {k : IntKind} {n : Int} {r' : Nat} {kk : Wr.K} {p : List Nat} {lo m : Nat} (ht : n < m) (h : EvX id (i + 1) os fs' l1 K) (h1 : (fs.hd (raw ((id * 1000 + i + 1) * 8) ix)).ev l = some (.x (.i k n), l) := by exact rfl) (h2 : (fs.hd (look ((id * 1000 + i + 1) * 8) x)).ev l = some (.w r' kk p sz lo m, l) := by exact rfl) (h0 : 0 <= n := by exact Y16 _) (h3 : (fs.hd ((bT d (.ptr r' kk (p ++ [lo + n.toNat]) 0)).bind fun _ => forget kl)).ev l = some ((), l1) := by exact rfl) (hf : fs.tlK fun f => f = fs' := by exact rfl) : EvX id i (⟨d, .ia sz x ix, none, kl⟩ :: os) fs l K := zw h1 h2 h0 ht h3 hf h
theorem yz {sz : Nat} {x ix : Opd} {k : IntKind} {n : Int} {r' : Nat} {kk : Wr.K} {p : List Nat} {lo m : Nat} (h0 : 0 <= n) (ht : n < m) (h : EvX id (i + 1) os fs' l1 K) (h1 : (fs.hd (raw ((id * 1000 + i + 1) * 8) ix)).ev l = some (.x (.i k n), l) := by exact rfl) (h2 : (fs.hd (look ((id * 1000 + i + 1) * 8) x)).ev l = some (.w r' kk p sz lo m, l) := by exact rfl) (h3 : (fs.hd ((bT d (.ptr r' kk (p ++ [lo + n.toNat]) 0)).bind fun _ => forget kl)).ev l = some ((), l1) := by exact rfl) (hf : fs.tlK fun f => f = fs' := by exact rfl) : EvX id i (⟨d, .ia sz x ix, none, kl⟩ :: os) fs l K := zw h1 h2 h0 ht h3 hf h
theorem yl {x : Opd} {rr : Nat} {k : Wr.K} {p : List Nat} {off : Nat} {c : RC} {t : T} (node : T) (hn : c.t.nav p = some node) (h : EvX id (i + 1) os fs' l1 K) (h1 : (fs.hd (addr ((id * 1000 + i + 1) * 8) x)).ev l = some (.ptr rr k p off, l) := by exact rfl) (h2 : (fs.hd (fH rr k p)).ev l = some (c, l) := by exact rfl) (ht : node.cells[off]? = some t := by exact rfl) (h3 : (fs.hd ((bT d (seen rr c.k p off node t).av).bind fun _ => forget kl)).ev l = some ((), l1) := by exact rfl) (hf : fs.tlK fun f => f = fs' := by exact rfl) : EvX id i (⟨d, .ld none x, none, kl⟩ :: os) fs l K := zl node h1 h2 hn ht h3 hf h
theorem yL {n : Nat} {x : Opd} {rr : Nat} {k : Wr.K} {p : List Nat} {off : Nat} {c : RC} (cs : List T) (hn : c.t.nav p = some (.a cs)) (h : EvX id (i + 1) os fs' l1 K) (h1 : (fs.hd (addr ((id * 1000 + i + 1) * 8) x)).ev l = some (.ptr rr k p off, l) := by exact rfl) (h2 : (fs.hd (fH rr k p)).ev l = some (c, l) := by exact rfl) (hl : Nat.ble (off + n) cs.length = true := by exact rfl) (h3 : (fs.hd ((bT d (.st (seenCells rr c.k p (.a cs) off (sub cs off n)))).bind fun _ => forget kl)).ev l = some ((), l1) := by exact rfl) (hf : fs.tlK fun f => f = fs' := by exact rfl) : EvX id i (⟨d, .ld (some n) x, none, kl⟩ :: os) fs l K := zL cs h1 h2 hn hl h3 hf h
theorem yS {n : Nat} {tk : Bool} {x v : Opd} {rr : Nat} {k k' : Wr.K} {p : List Nat} {off : Nat} {c : RC} {new : List T} (node : T) (t : T) (hn : c.t.nav p = some node) (hm : c.t.cb p = true) (ht : c.t.put p (node.bO (bC node.cells off new)) = t) (h : EvX id (i + 1) os fs' l2 K) (h0 : (fs.hd (dz ((id * 1000 + i + 1) * 8) tk v)).ev l = some (new, l1) := by exact rfl) (hl : new.length = n := by exact rfl) (h1 : (fs.hd (addr ((id * 1000 + i + 1) * 8) x)).ev l1 = some (.ptr rr k p off, l1) := by exact rfl) (h2 : (fs.hd (fH rr k p)).ev l1 = some (c, l1) := by exact rfl) (hok : oc c p off node new = true := by exact rfl) (hk : (bif (sub node.cells off new.length).all T.scalar && new.all T.scalar then c.k else bump ((id * 1000 + i + 1) * 8) c p) = k' := by exact rfl) (h3 : (fs.hd ((Pg.wr rr ({ c with k := k', t := t } : RC).av).bind fun _ => forget kl)).ev l1 = some ((), l2) := by exact rfl) (hf : fs.tlK fun f => f = fs' := by exact rfl) : EvX id i (⟨none, .sto n tk x v, none, kl⟩ :: os) fs l K := zS node t h0 hl h1 h2 hn hm hok ht hk h3 hf h
end
section
variable {l : LS} {us : List Nat} {K : Ex -> LS -> List Nat -> Prop}
theorem yc {c : bR} (h : od c l us K) (hs : isStep c = true := by exact rfl) : Ev c l us K := zc hs h
theorem yt {c : Opd} {a b : bR} {t : Bool} {l l1 : LS} {us : List Nat} {K : Ex -> LS -> List Nat -> Prop} (h1 : t = true -> Ev a l us K) (h2 : t = false -> Ev b l us K) (h : (raw 0 c).ev l = some (.x (.b t), l1) := by exact rfl) : Ev (.cond c a b) l us K := zt h h1 h2
theorem yt1 {c : Opd} {a b : bR} {t : Bool} {l l1 : LS} {us : List Nat} {K : Ex -> LS -> List Nat -> Prop} (h1 : Ev a l us K) (h : (raw 0 c).ev l = some (.x (.b t), l1) := by exact rfl) (ht : t = true := by with_reducible assumption) : Ev (.cond c a b) l us K := zt1 h ht h1
theorem yt0 {c : Opd} {a b : bR} {t : Bool} {l l1 : LS} {us : List Nat} {K : Ex -> LS -> List Nat -> Prop} (h1 : Ev b l us K) (h : (raw 0 c).ev l = some (.x (.b t), l1) := by exact rfl) (ht : t = false := by with_reducible assumption) : Ev (.cond c a b) l us K := zt0 h ht h1
end
end Go.Wr
namespace Go.Wr
section
variable {id i : Nat} {d : Option Nat} {os : List aC} {l l1 l2 l3 : LS} {K : LS -> Prop} {kl : List Nat}
theorem Z6d {l : LS} : (gh []).ev l = some ((), l) := rfl
theorem Z6g {t : T} {cs : List Cell} {l : LS} (h : (gh cs).ev l = some ((), l)) : (gh (.x t :: cs)).ev l = some ((), l) := h
theorem Z6f {r : Nat} {k : Wr.K} {p : List Nat} {z lo n : Nat} {cs : List Cell} {l : LS} {c : RC} {sz : Nat} {es : List T} (h1 : (dZ r k p).ev l = some (c, l)) (hn : c.t.nav p = some (.l .y sz es)) (hl : es.length = n) (h : (gh cs).ev l = some ((), l)) :
  (gh (.w r k p z lo n :: cs)).ev l = some ((), l) := by
 simp only [gh, Bind.bind, Z3p, h1, hn, hl, if_true]
 exact h
theorem Z7n {e : Nat} {x : Opd} {r : Nat} {k : Wr.K} {p : List Nat} {z sz : Nat} {c : RC} {es : List T} (h1 : (raw e x).ev l = some (.w r k p z 0 es.length, l)) (h2 : (dZ r k p).ev l = some (c, l)) (hn : c.t.nav p = some (.l .y sz es))
  (hw : (Pg.wr r ({ c with t := c.t.put p .u } : RC).av).ev l = some ((), l1)) : (dz e true x).ev l = some ([.l .y sz es], l1) := by
 have gN : sub es 0 es.length = es := by simp [sub]
 simp only [dz, dL, Bind.bind, Z3p, h1, h2, hn, if_true, hw, gN]
 rfl
theorem Zdu {e r : Nat} {ls : List (List Nat × T)} {av : AV} {c : RC} {t' : T} (h1 : (Pg.rd r).ev l1 = some (av, l1)) (hc : av.rc = some c) (hp : fJ ls c.t = some t') (hw : (Pg.wr r ({ c with k := ⟨c.k.e, e, e⟩, t := t' } : RC).av).ev l1 = some ((), l2)) :
  (jD e r ls).ev l1 = some ((), l2) := by
 simp only [jD, Bind.bind, Z3p, h1, hc, hp]
 exact hw
theorem Zed {p : List Nat} {x t t' : T} (hn : t.nav p = some .u) (hm : t.cb p = true) (he : p.isEmpty = false) (ht : t.put p x = t') : fJ [(p, x)] t = some t' := by
 simp only [fJ, hn, hm, he, Y12, Y5, Y19, if_true, ht]
theorem zM (g : Nat) {F : Fun} {x : Opd} {args : List (Pass × Opd)} {v av0 : AV} {c0 : RC} {l4 : LS} {ps : List (Option (Nat × List Nat))} {r : Nat} {ts cs : List T} {hs : List Hand} {xa : Arg} {ags : List Arg} {q : Out}
  (h1 : (raw ((id * 1000 + i + 1) * 8) x).ev l = some (v, l)) (h2 : jm v = some (ps, r)) (h3 : (gh v.l7).ev l = some ((), l)) (hr : (Pg.rd r).ev l = some (av0, l)) (hc : av0.rc = some c0) (h4 : (dz ((id * 1000 + i + 1) * 8) true x).ev l = some (ts, l1))
  (h5 : (fI ((id * 1000 + i + 1) * 8) args (args.map fun _ => none)).ev l1 = some (hs, l1)) (hS : hs.all (fun h => h.bor.isEmpty && h.box.isNone && h.arg.isS) = true) (ha : nB v ts = some xa) (hag : xa :: hs.map Hand.arg = ags) (hF : F ags = some q)
  (hb : q.back = [cs]) (hg : q.res.all RV.fi = true) (hl : cs.length = ps.length) (h6 : (jD ((id * 1000 + i + 1) * 8) r (dH ps cs)).ev l1 = some ((), l4)) (h8 : (hQ r c0).ev l4 = some ((), l2)) (h7 : ((results ((id * 1000 + i + 1) * 8) d q.res).bind fun _ => forget kl).ev l2 = some ((), l3))
  (hK : EvX id (i + 1) os none l3 K) : EvX id i (⟨d, .bU g F x args, none, kl⟩ :: os) none l K := by
 subst hag
 refine zo ?_ rfl hK
 have gP : nC F v ts hs ps.length = some (q, cs) := by
  simp only [nC, hS, if_true, ha, hF, qt, hb, hg, hl, beq_self_eq_true, Y4]
 show ((jE ((id * 1000 + i + 1) * 8) d F x args).bind fun _ => forget kl).ev l = _
 rw [Z3p] at h7 ⊢
 simp only [jE, Bind.bind, Z3p, h1, h2, h3, hr, hc, h4, h5, gP, h6, h8]
 exact h7
end
end Go.Wr
namespace Go.Wr
def BZ (f : aA) (o : Out) : Ex -> LS -> List Nat -> Prop
 | .exit _, _, _ => False
 | _, l, _ => ∃ l', (iZ f).ev l = some (o, l')
theorem Z6h {f : aA} {xs : List Arg} {o : Out} (h0 : jG f xs = true) (h : lv 0 xs [] fun l => Ev f.code l [] (BZ f o)) : lock (dA f) xs = some o := by
 rw [Zac]
 obtain ⟨l, h1, h2⟩ := Z8l xs 0 [] fun l => Ev f.code l [] (BZ f o)
 rw [h1] at h
 obtain ⟨ex, l', us', h3, h4⟩ := h
 rw [h2] at h3
 have h5 : (LS.of [] : St) = fun _ => AV.u := rfl
 rw [h5] at h3
 unfold dA
 rw [if_pos h0, h3]
 cases ex with
 | exit id => exact h4.elim
 | nx =>
  obtain ⟨l2, h6⟩ := h4
  simp only [Z40 _ h6]
 | ret =>
  obtain ⟨l2, h6⟩ := h4
  simp only [Z40 _ h6]
theorem fD {f : aA} {o o' : Out} {l l' : LS} (h : (iZ f).ev l = some (o', l')) (ho : o' = o) : ∃ l', (iZ f).ev l = some (o, l') := ⟨l', by rw [h, ho]⟩
theorem Zax {o : Ob} {sz i : Nat} {E : List T} {c : T} {q : List Nat} {x : Option T} (hi : i < E.length) (h : c.nav q = x) : (T.l o sz (E.set i c)).nav ((0 + (i : Int).toNat) :: q) = x := by
 simp only [T.nav, T.kid, Y83, Int.toNat_natCast, Y39 hi, Y86, h]
theorem Zaw {sz i : Nat} {E : List T} {c : T} {q : List Nat} (hi : i < E.length) (h : c.cb q = true) : (T.l .y sz (E.set i c)).cb ((0 + (i : Int).toNat) :: q) = true := by
 simp only [T.cb, Y83, Int.toNat_natCast, Y39 hi, h]; rfl
def T.frc : T -> Option T
 | .a cs => jL cs fun cs => some (.a cs)
 | t => some t
theorem T.CP {t t' : T} (h : t.frc = some t') : t = t' := by
 cases t <;> simp only [T.frc, Z63, Y89] at h <;> exact h
theorem Zay {o : Ob} {sz i : Nat} {E : List T} {c c' x : T} {q : List Nat} (hi : i < E.length) (h : (c.put q x).frc = some c') : (T.l o sz (E.set i c)).put ((0 + (i : Int).toNat) :: q) x = .l o sz (E.set i c') := by
 have h := T.CP h
 simp only [T.put, T.kid, Y83, Int.toNat_natCast, Y39 hi, T.aZ, List.set_set, h]
theorem Zav {i : Nat} {E : List T} {c : T} (hi : i < E.length) : (i : Int) < (E.set i c).length := by simpa using hi
theorem Zbm : ∀ (p : List Nat) {t x y : T}, t.nav p = some y -> (t.put p x).nav p = some x
 | [], t, x, y, _ => rfl
 | k :: p, t, x, y, h => by
  simp only [T.nav] at h
  cases hk : t.kid k with
  | none => rw [hk] at h; cases h
  | some c =>
   rw [hk] at h
   simp only [T.put, hk, T.nav]
   have : (t.aZ k (c.put p x)).kid k = some (c.put p x) := by
    cases t <;> simp only [T.kid, T.aZ] at hk ⊢ <;> first | cases hk | (have := (Y36.1 hk).1; simp [this])
   rw [this]
   exact Zbm p h
theorem Zb1 : ∀ (p : List Nat) {t x y : T}, t.nav p = some y -> t.cb p = true -> (t.put p x).cb p = true
 | [], t, x, y, _, _ => by cases x <;> rfl
 | k :: p, t, x, y, h, hm => by
  simp only [T.nav] at h
  cases hk : t.kid k with
  | none => rw [hk] at h; cases h
  | some c =>
   rw [hk] at h
   simp only [T.put, hk]
   cases t <;> simp only [T.kid, T.aZ] at hk ⊢ <;> first | cases hk | skip
   ·have h1 := (Y36.1 hk).1
    simp only [T.cb, hk] at hm
    simp only [T.cb, Y39 h1]
    exact Zb1 p h hm
   ·have h1 := (Y36.1 hk).1
    simp only [T.cb, hk, Y2] at hm
    simp only [T.cb, Y39 h1, Y2]
    exact ⟨hm.1, Zb1 p h hm.2⟩
theorem Ze7 : ∀ (p : List Nat) {t x z y : T}, t.nav p = some y -> (t.put p x).put p z = t.put p z
 | [], t, x, z, y, _ => rfl
 | k :: p, t, x, z, y, h => by
  simp only [T.nav] at h
  cases hk : t.kid k with
  | none => rw [hk] at h; cases h
  | some c =>
   rw [hk] at h
   have : ∀ d : T, (t.aZ k d).kid k = some d := by
    intro d
    cases t <;> simp only [T.kid, T.aZ] at hk ⊢ <;> first | cases hk | (have := (Y36.1 hk).1; simp [this])
   have h2 : ∀ d e : T, (t.aZ k d).aZ k e = t.aZ k e := by
    intro d e
    cases t <;> simp only [T.aZ, List.set_set]
   simp only [T.put, hk, this, h2]
   rw [Ze7 p h]
section
variable {id i : Nat} {d : Option Nat} {os : List aC} {l l1 l2 l3 l4 : LS} {K : LS -> Prop} {kl : List Nat}
theorem yM (g : Nat) {F : Fun} {x : Opd} {args : List (Pass × Opd)} {av0 av1 : AV} {c c1 : RC} {r z n : Nat} {k : Wr.K} {p : List Nat} {es es' : List T} {t1 t2 : T} {hs : List Hand} {ags : List Arg} {rs : List RV}
  (hF : F (.mu (.l .y z es) :: ags) = some ⟨rs, [[.l .y z es']]⟩) (hK : EvX id (i + 1) os none l3 K)
  (h1 : (raw ((id * 1000 + i + 1) * 8) x).ev l = some (.w r k p z 0 n, l) := by exact rfl) (hpe : p.isEmpty = false := by exact rfl) (h2 : (dZ r k p).ev l = some (c, l) := by exact rfl) (hn : c.t.nav p = some (.l .y z es) := by first | exact Zax (by assumption) rfl | exact rfl)
  (hm : c.t.cb p = true := by first | exact Zaw (by assumption) rfl | exact rfl) (hlen : es.length = n := by exact rfl) (hr : (Pg.rd r).ev l = some (av0, l) := by exact rfl) (hc : av0.rc = some c := by exact rfl) (hp1 : c.t.put p .u = t1 := by first | exact Zay (by assumption) rfl | exact rfl)
  (hw : (Pg.wr r ({ c with t := t1 } : RC).av).ev l = some ((), l1) := by exact rfl) (h5 : (fI ((id * 1000 + i + 1) * 8) args (args.map fun _ => none)).ev l1 = some (hs, l1) := by exact rfl) (hS : hs.all (fun h => h.bor.isEmpty && h.box.isNone && h.arg.isS) = true := by exact rfl) (hag : hs.map Hand.arg = ags := by exact rfl)
  (hg : rs.all RV.fi = true := by exact rfl) (hr1 : (Pg.rd r).ev l1 = some (av1, l1) := by exact rfl) (hc1 : av1.rc = some c1 := by exact rfl) (ht1 : c1.t = t1 := by exact rfl) (hp2 : c.t.put p (.l .y z es') = t2 := by first | exact Zay (by assumption) rfl | exact rfl)
  (hw2 : (Pg.wr r ({ c1 with k := ⟨c1.k.e, (id * 1000 + i + 1) * 8, (id * 1000 + i + 1) * 8⟩, t := t2 } : RC).av).ev l1 = some ((), l4) := by exact rfl) (h8 : (hQ r c).ev l4 = some ((), l2) := by exact rfl) (h7 : ((results ((id * 1000 + i + 1) * 8) d rs).bind fun _ => forget kl).ev l2 = some ((), l3) := by exact rfl) :
  EvX id i (⟨d, .bU g F x args, none, kl⟩ :: os) none l K := by
 subst hlen hp1 hp2 hag
 refine zM (ts := [.l .y z es]) (cs := [.l .y z es']) (ps := [some (r, p)]) (r := r) g h1 rfl (Z6f h2 hn rfl Z6d) hr hc (Z7n h1 h2 hn hw) h5 hS rfl rfl hF rfl hg rfl ?_ h8 h7 hK
 refine Zdu (t' := c.t.put p (.l .y z es')) hr1 hc1 ?_ hw2
 show fJ [(p, .l .y z es')] c1.t = _
 rw [ht1]
 exact Zed (Zbm p hn) (Zb1 p hn hm) hpe (Ze7 p hn)
theorem yN (g : Nat) {F : Fun} {x : Opd} {args : List (Pass × Opd)} {v av0 : AV} {c0 : RC} {ps : List (Option (Nat × List Nat))} {r : Nat} {ts cs : List T} {hs : List Hand} {xa : Arg} {ags : List Arg} {q : Out}
  (hF : F ags = some q) (hK : EvX id (i + 1) os none l3 K) (h1 : (raw ((id * 1000 + i + 1) * 8) x).ev l = some (v, l) := by exact rfl) (h2 : jm v = some (ps, r) := by exact rfl) (h3 : (gh v.l7).ev l = some ((), l) := by repeat' (first | exact Z6d | (apply Z6f;exact rfl;exact rfl;exact rfl) | apply Z6g))
  (hr : (Pg.rd r).ev l = some (av0, l) := by exact rfl) (hc : av0.rc = some c0 := by exact rfl) (h4 : (dz ((id * 1000 + i + 1) * 8) true x).ev l = some (ts, l1) := by exact rfl)
  (h5 : (fI ((id * 1000 + i + 1) * 8) args (args.map fun _ => none)).ev l1 = some (hs, l1) := by exact rfl) (hS : hs.all (fun h => h.bor.isEmpty && h.box.isNone && h.arg.isS) = true := by exact rfl) (ha : nB v ts = some xa := by exact rfl) (hag : xa :: hs.map Hand.arg = ags := by (simp only [List.map, Zk1]; exact rfl))
  (hb : q.back = [cs] := by exact rfl) (hg : q.res.all RV.fi = true := by exact rfl) (hl : cs.length = ps.length := by exact rfl) (h6 : (jD ((id * 1000 + i + 1) * 8) r (dH ps cs)).ev l1 = some ((), l4) := by exact rfl) (h8 : (hQ r c0).ev l4 = some ((), l2) := by exact rfl) (h7 : ((results ((id * 1000 + i + 1) * 8) d q.res).bind fun _ => forget kl).ev l2 = some ((), l3) := by exact rfl) :
  EvX id i (⟨d, .bU g F x args, none, kl⟩ :: os) none l K :=
 zM g h1 h2 h3 hr hc h4 h5 hS ha hag hF hb hg hl h6 h8 h7 hK
end
def sc (k : Int) : Int := IntKind.i64.wrap (k + 1)
def mkL {α : Type} (m : α -> Int -> α × Int) : List α -> Int -> List α × Int
 | [], k => ([], k)
 | x :: l, k => ((m x k).1 :: (mkL m l (m x k).2).1, (mkL m l (m x k).2).2)
def bL : Int := 4611686018427387904
def Mok {α : Type} (m : α -> Int -> α × Int) (w : α -> Nat) : Prop := ∀ x k (r : Nat), 0 <= k -> k + ((w x + r : Nat) : Int) <= bL -> 0 <= (m x k).2 /\ (m x k).2 + (r : Int) <= bL
def wL {α : Type} (w : α -> Nat) (l : List α) : Nat := (l.map fun x => 1 + w x).sum
theorem Zlj {α : Type} (w : α -> Nat) : ∀ (l : List α), l.length <= wL w l
 | [] => Nat.le_refl _
 | x :: l => by have := Zlj w l; simp only [wL, Y50, Y69, Y42] at *; omega
theorem Zi4 {k : Int} {r : Nat} (h : 0 <= k) (h1 : k + ((1 + r : Nat) : Int) <= bL) : 0 <= sc k /\ sc k + (r : Int) <= bL := by
 unfold sc bL at *
 rw [IntKind.wrap_i64]
 omega
theorem Zb6 {α : Type} {m : α -> Int -> α × Int} {w : α -> Nat} (h : Mok m w) : Mok (mkL m) (wL w) := by
 intro l
 induction l with
 | nil => intro k r h1 h2; simp only [wL, List.map_nil, List.sum_nil, Y83] at h2; exact ⟨h1, h2⟩
 | cons x l ih =>
  intro k r h1 h2
  simp only [wL, Y50, Y69] at h2
  obtain ⟨h3, h4⟩ := h x k (wL w l + r) h1 (by unfold wL; omega)
  exact ih _ r h3 h4
theorem Zb4 {α : Type} (m : α -> Int -> α × Int) : ∀ (l : List α) (k : Int), (mkL m l k).1.length = l.length
 | [], _ => rfl
 | x :: l, k => by simp only [mkL, Y42, Zb4 m l]
theorem Zb2 {α : Type} (m : α -> Int -> α × Int) (x : α) : ∀ (l : List α) (k : Int), mkL m (l ++ [x]) k = ((mkL m l k).1 ++ [(m x (mkL m l k).2).1], (m x (mkL m l k).2).2)
 | [], k => rfl
 | y :: l, k => by simp only [Y24, mkL, Zb2 m x l]
theorem Zb3 {α : Type} (m : α -> Int -> α × Int) : ∀ (l : List α) (k : Int) (i : Nat) (x : α), l[i]? = some x -> (mkL m l k).1[i]? = some (m x (mkL m (l.take i) k).2).1
 | [], k, i, x, h => by simp at h
 | y :: l, k, 0, x, h => by simp only [Y32, Y89] at h; subst h; rfl
 | y :: l, k, i + 1, x, h => by
  simp only [Y31] at h
  simp only [mkL, Y31, List.take_succ_cons]
  exact Zb3 m l _ i x h
theorem Zkk {α : Type} {l : List α} {i : Nat} {x : α} (h : l[i]? = some x) : l.take (i + 1) = l.take i ++ [x] := by rw [Y70, h]; rfl
theorem Zb5 {α : Type} {m : α -> Int -> α × Int} {w : α -> Nat} (h : Mok m w) {l : List α} {k : Int} (h1 : 0 <= k) (h2 : k + (wL w l : Int) <= bL) {i : Nat} {x : α} (hx : l[i]? = some x) : 0 <= (mkL m (l.take i) k).2 /\ (mkL m (l.take i) k).2 + (w x : Int) <= bL := by
 have h3 : wL w l = wL w (l.take i) + (1 + w x + wL w (l.drop (i + 1))) := by
  have h4 : i < l.length := (Y36.1 hx).1
  have h5 : l[i] = x := by rw [Y34 h4] at hx; exact Option.some.inj hx
  have : l = l.take i ++ (x :: l.drop (i + 1)) := by rw [<- h5, <- List.drop_eq_getElem_cons h4, Y71]
  conv => lhs; rw [this]
  simp only [wL, Y49, List.sum_append, Y50, Y69]
 rw [h3] at h2
 obtain ⟨h6, h7⟩ := Zb6 h (l.take i) k _ h1 h2
 exact ⟨h6, by omega⟩
def mkd {α : Type} (m : α -> Int -> α × Int) (l : List α) (k : Int) (i : Nat) : List α := (mkL m (l.take i) k).1 ++ l.drop i
theorem Zb8 {α : Type} (m : α -> Int -> α × Int) (l : List α) (k : Int) (i : Nat) : (mkd m l k i).length = l.length := by
 simp only [mkd, Y41, Zb4, Y48, List.length_drop]; omega
theorem Zb7 {α : Type} {m : α -> Int -> α × Int} {l : List α} {k : Int} {i : Nat} {x : α} (h : l[i]? = some x) : (mkd m l k i)[i]? = some x := by
 have h1 : i < l.length := (Y36.1 h).1
 have h2 : (mkL m (l.take i) k).1.length = i := by rw [Zb4, Y48]; omega
 rw [mkd, Y30 (by omega), h2, Nat.sub_self, Y33, Y75, h]
theorem Zb9 {α : Type} {m : α -> Int -> α × Int} {l : List α} {k : Int} {i : Nat} {x : α} (h : l[i]? = some x) : (mkd m l k i).set i (m x (mkL m (l.take i) k).2).1 = mkd m l k (i + 1) := by
 have h1 : i < l.length := (Y36.1 h).1
 have h2 : (mkL m (l.take i) k).1.length = i := by rw [Zb4, Y48]; omega
 have h5 : l[i] = x := by rw [Y34 h1] at h; exact Option.some.inj h
 rw [mkd, List.set_append_right _ _ (by omega), h2, Nat.sub_self, mkd, Zkk h, Zb2, Y21]
 rw [show l.drop i = x :: l.drop (i + 1) by rw [<- h5, <- List.drop_eq_getElem_cons h1]]
 rfl
theorem Ziz {α : Type} {l : List α} {i : Nat} {x : α} (h : l[i]? = some x) : l.set i x = l := by
 obtain ⟨h1, h2⟩ := Y36.1 h
 rw [<- h2, List.set_getElem_self]
section
variable {c : bR} {l : LS} {us : List Nat} {K : Ex -> LS -> List Nat -> Prop}
theorem O7 {bd : List Nat} {l' : LS} (h : Ev c l' [] (fP bd c K)) (hr : l.cL bd some = some l' := by exact rfl) : Ev (.loop bd c) l us K := by
 refine Z3x ?_
 unfold LS.cL at hr ⊢
 rw [Zg7] at hr ⊢
 rw [Option.some.inj hr]
 exact h
theorem fQ {bd : List Nat} {α : Type} (el : α -> T) {m : α -> Int -> α × Int} {w : α -> Nat} (hm : Mok m w) {xs : List α} {k0 : Int} (hk0 : 0 <= k0) (hw : k0 + (wL w xs : Int) <= bL) {sz : Nat}
  (hS : (l.cL bd fun x => x) = [(0, .own ⟨0, 0, 0⟩ (.l .y sz (xs.map el))), (1, .x (iT k0)), (5, .x (iT 0))])
  (step : ∀ (i : Nat) (E : List T) (x : α) (k : Int), i < E.length -> 0 <= k -> k + (w x : Int) <= bL -> decide ((i : Int) < (E.set i (el x)).length) = true ->
   (∀ l' us', (l'.cL bd fun x => x) = [(0, .own ⟨0, 0, 0⟩ (.l .y sz (E.set i (el (m x k).1)))), (1, .x (iT (m x k).2)), (5, .x (iT (IntKind.i64.wrap (i + 1))))] -> fP bd c K .nx l' us') ->
   Ev c [(0, .own ⟨0, 0, 0⟩ (.l .y sz (E.set i (el x)))), (1, .x (iT k)), (5, .x (iT i))] [] (fP bd c K))
  (last : ∀ (k : Int) (E : List T), decide ((xs.length : Int) < E.length) = false -> k = (mkL m xs k0).2 -> E = (mkL m xs k0).1.map el -> Ev c [(0, .own ⟨0, 0, 0⟩ (.l .y sz E)), (1, .x (iT k)), (5, .x (iT xs.length))] [] (fP bd c K)) : Ev (.loop bd c) l us K := by
 have hl := Zlj w xs
 unfold bL at hw
 refine Z3v (fun i (_ : Unit) => [(0, .own ⟨0, 0, 0⟩ (.l .y sz ((mkd m xs k0 i).map el))), (1, .x (iT (mkL m (xs.take i) k0).2)), (5, .x (iT i))]) (fun _ _ => True) xs.length () trivial ?_ ?_
 ·rw [hS]; rfl
 intro i _ hi _ ih
 rcases Y79 i xs.length with hlt | hge
 ·have hx := Y34 hlt
  generalize xs[i] = x at hx
  have h1 : (mkd m xs k0 i).map el = ((mkd m xs k0 i).map el).set i (el x) := by
   rw [<- List.map_set, Ziz (Zb7 hx)]
  have h2 : ((mkd m xs k0 i).map el).set i (el (m x (mkL m (xs.take i) k0).2).1) = (mkd m xs k0 (i + 1)).map el := by rw [<- List.map_set, Zb9 hx]
  have h3 : (m x (mkL m (xs.take i) k0).2).2 = (mkL m (xs.take (i + 1)) k0).2 := by rw [Zkk hx, Zb2]
  have h4 : i < ((mkd m xs k0 i).map el).length := by rw [Y45, Zb8]; exact hlt
  have h5 := ih () hlt trivial
  simp only [<- h2, <- h3, <- aM (show i < 9223372036854775807 by omega)] at h5
  show Ev c [(0, .own ⟨0, 0, 0⟩ (.l .y sz ((mkd m xs k0 i).map el))), (1, .x (iT (mkL m (xs.take i) k0).2)), (5, .x (iT i))] [] _
  rw [h1]
  obtain ⟨h6, h7⟩ := Zb5 hm hk0 hw hx
  exact step i _ x _ h4 h6 h7 (by rw [List.length_set]; exact decide_eq_true (by omega)) h5
 ·have h1 : i = xs.length := by omega
  subst h1
  refine last _ _ (by rw [Y45, Zb8]; simp) (by rw [Y72]) ?_
  rw [mkd, Y72, List.drop_length, Y22]
theorem rb {bd : List Nat} {α : Type} (el : α -> T) {m : α -> Int -> α × Int} {w : α -> Nat} (hm : Mok m w) {xs : List α} {k0 : Int} (hk0 : 0 <= k0) (hw : k0 + (wL w xs : Int) <= bL) {sz : Nat}
  (hS : (l.cL bd fun x => x) = [(0, .x (.l .n sz ((mkL m xs k0).1.map el))), (1, .x (iT k0)), (5, .x (iT 0))])
  (step : ∀ (i : Nat) (E : List T) (x : α) (k : Int), E[((i : Nat) : Int).toNat]? = some (el (m x k).1) -> 0 <= k -> k + (w x : Int) <= bL -> decide ((i : Int) < E.length) = true ->
   (∀ l' us', (l'.cL bd fun x => x) = [(0, .x (.l .n sz E)), (1, .x (iT (m x k).2)), (5, .x (iT (IntKind.i64.wrap (i + 1))))] -> fP bd c K .nx l' us') ->
   Ev c [(0, .x (.l .n sz E)), (1, .x (iT k)), (5, .x (iT i))] [] (fP bd c K))
  (last : ∀ (k : Int) (E : List T), decide ((xs.length : Int) < E.length) = false -> k = (mkL m xs k0).2 -> Ev c [(0, .x (.l .n sz E)), (1, .x (iT k)), (5, .x (iT xs.length))] [] (fP bd c K)) : Ev (.loop bd c) l us K := by
 have hl := Zlj w xs
 unfold bL at hw
 refine Z3v (fun i (_ : Unit) => [(0, .x (.l .n sz ((mkL m xs k0).1.map el))), (1, .x (iT (mkL m (xs.take i) k0).2)), (5, .x (iT i))]) (fun _ _ => True) xs.length () trivial ?_ ?_
 ·rw [hS]; rfl
 intro i _ hi _ ih
 rcases Y79 i xs.length with hlt | hge
 ·have hx := Y34 hlt
  generalize xs[i] = x at hx
  have h1 : ((mkL m xs k0).1.map el)[((i : Nat) : Int).toNat]? = some (el (m x (mkL m (xs.take i) k0).2).1) := by
   rw [Int.toNat_natCast, Y37, Zb3 m xs k0 i x hx]; rfl
  have h3 : (m x (mkL m (xs.take i) k0).2).2 = (mkL m (xs.take (i + 1)) k0).2 := by rw [Zkk hx, Zb2]
  have h5 := ih () hlt trivial
  simp only [<- h3, <- aM (show i < 9223372036854775807 by omega)] at h5
  obtain ⟨h6, h7⟩ := Zb5 hm hk0 hw hx
  exact step i _ x _ h1 h6 h7 (by rw [Y45, Zb4]; exact decide_eq_true (by omega)) h5
 ·have h1 : i = xs.length := by omega
  subst h1
  exact last _ _ (by rw [Y45, Zb4]; simp) (by rw [Y72])
end
def aI {α : Type} (_ : α) : Nat := 1
def iM (_ : Int) (k : Int) : Int × Int := (k, sc k)
def bM (_ : UInt8) (k : Int) : UInt8 × Int := (UInt8.ofNat (IntKind.u8.wrap k).toNat, sc k)
theorem Z86 : Mok iM aI := fun x k r h h1 => Zi4 h h1
theorem Z17 : Mok bM aI := fun x k r h h1 => Zi4 h h1
theorem Zk4 {α : Type} {f : α -> T} {m : α -> Int -> α × Int} {l : List α} {k : Int} : sub ((mkL m l k).1.map f) 0 (l.map f).length = (mkL m l k).1.map f := by
 unfold sub; rw [List.drop_zero, Y73 (by simp [Zb4])]
theorem nnd {k : Int} (h : 0 <= k) : decide (k < 0) = false := by simpa using h
theorem neI (k : Int) : (k != k) = false := by simp
theorem neB (k : Bool) : (k != k) = false := by simp
end Go.Wr
namespace Go.Wr
section
variable {id i : Nat} {o : aC} {d : Option Nat} {op : MOp} {os : List aC} {fs fs' : Fs} {l l1 l2 l3 : LS} {K : LS -> Prop} {s : Nat} {b want : Bool} {kl : List Nat}
theorem Zm8 {r c n sz : Nat} {k kk : Wr.K} {es : List T} (h1 : (fs.hd (pk r)).ev l = some (some kk, l)) (h2 : kk.ok k 1 = true) (h3 : (fs.hd (gC r c)).ev l = some (some (.l .y sz es), l)) (hn : n = es.length) (h4 : (fs.hd (sC r c .u)).ev l = some ((), l1)) :
  (fs.hd (lN true r k c n)).ev l = some (.l .y sz es, l1) := by
 match fs, h1, h3, h4 with
 | none, h1, h3, h4 =>
  simp only [Fs.hd] at h1 h3 h4 ⊢
  simp only [lN, Bind.bind, Z3p, h1, h2, h3, if_pos hn, h4]
  rfl
 | some ((r', w') :: fs), h1, h3, h4 =>
  simp only [Fs.hd] at h1 h3 h4 ⊢
  simp only [lN, Bind.bind, Zls, Z3p, h1, h2, h3, if_pos hn, h4]
  rfl
 | some [], h1, _, _ => cases h1
theorem zVF {sz : Nat} {agg : Bool} {zero : List T} {tk : Bool} {dd x : Nat} {y : Opd} {r : Nat} {k : Wr.K} {c z n : Nat} {es es2 es3 : List T} {o2 o3 : Ob} {v : AV} (g1 : (fs.hd (Pg.rd x)).ev l = some (.w r k [c] z 0 n, l)) (g2 : (fs.hd (lN true r k c n)).ev l = some (.l .y sz es, l1))
  (h2 : (fs.hd (raw ((id * 1000 + i + 1) * 8) y)).ev l1 = some (v, l1)) (h3 : (fs.hd (fx v)).ev l1 = some (.l o2 sz es2, l1)) (h5 : (fs.hd (dz ((id * 1000 + i + 1) * 8) tk y)).ev l1 = some ([.l o3 sz es3], l3)) (hlen : es.length + es2.length < aS) (hfl : eE es2 = false) (iL : es.length + es3.length < aS)
  (h4 : (fs.hd ((setS dd (.own ⟨(id * 1000 + i + 1) * 8, (id * 1000 + i + 1) * 8, (id * 1000 + i + 1) * 8⟩ (.l .y sz (es ++ es3)))).bind fun _ => forget kl)).ev l3 = some ((), l2)) (hf : fs.tlK fun f => f = fs') (h : EvX id (i + 1) os fs' l2 K) :
  EvX id i (⟨some dd, .gv (.app sz agg zero tk (.t x) y), none, kl⟩ :: os) fs l K := by
 refine zo ?_ hf h
 match fs, g1, g2, h2, h3, h4, h5 with
 | none, g1, g2, h2, h3, h4, h5 =>
  simp only [Fs.hd] at g1 g2 h2 h3 h4 h5 ⊢
  rw [Z3p] at h4
  simp only [aC.exec, aC.go, exec, jF, Bind.bind, Z3p, g1, g2, h2, h3, hlen, and_self, if_true, hfl, Y9, if_false, h5, iL]
  exact h4
 | some ((r', w') :: fs), g1, g2, h2, h3, h4, h5 =>
  simp only [Fs.hd] at g1 g2 h2 h3 h4 h5 ⊢
  rw [Zls, Z3p] at h4
  simp only [aC.exec, aC.go, exec, jF, Bind.bind, Zls, Z3p, g1, g2, h2, h3, hlen, and_self, if_true, hfl, Y9, if_false, h5, iL]
  exact h4
 | some [], g1, _, _, _, _, _ => cases g1
inductive kO (fs : Fs) : List Cell -> LS -> List T -> LS -> Prop
 | nil (l : LS) : kO fs [] l [] l
 | x {cs : List Cell} {l l' : LS} {t : T} {ts : List T} : kO fs cs l ts l' -> kO fs (.x t :: cs) l (t :: ts) l'
 | w {cs : List Cell} {l l1 l' : LS} {r : Nat} {k : Wr.K} {p : List Nat} {z n sz : Nat} {c : RC} {es ts : List T} {t1 : T} (h2 : (fs.hd (dZ r k p)).ev l = some (c, l)) (hn : c.t.nav p = some (.l .y sz es)) (hlen : es.length = n) (hp : c.t.put p .u = t1)
   (hw : (fs.hd (Pg.wr r ({ c with t := t1 } : RC).av)).ev l = some ((), l1)) : kO fs cs l1 ts l' -> kO fs (.w r k p z 0 n :: cs) l (.l .y sz es :: ts) l'
theorem Zmp {r : Nat} {k : Wr.K} {p : List Nat} {n sz : Nat} {c : RC} {es : List T} {t1 : T} (h2 : (fs.hd (dZ r k p)).ev l = some (c, l)) (hn : c.t.nav p = some (.l .y sz es)) (hlen : es.length = n) (hp : c.t.put p .u = t1)
  (hw : (fs.hd (Pg.wr r ({ c with t := t1 } : RC).av)).ev l = some ((), l1)) : (fs.hd (dL true r k p 0 n)).ev l = some (.l .y sz es, l1) := by
 have hs : sub es 0 n = es := by rw [<- hlen]; simp [sub]
 subst hp
 match fs, h2, hw with
 | none, h2, hw =>
  simp only [Fs.hd] at h2 hw ⊢
  simp only [dL, Bind.bind, Z3p, h2, hn, if_true, hw, hs]
  rfl
 | some ((r', w') :: fs), h2, hw =>
  simp only [Fs.hd] at h2 hw ⊢
  simp only [dL, Bind.bind, Zls, Z3p, h2, hn, if_true, hw, hs]
  rfl
 | some [], h2, _ => cases h2
theorem Zmg {α β : Type} {p : Pg α} {q : α -> Pg β} {x : α} {y : Option (β × LS)} (h1 : (fs.hd p).ev l = some (x, l1)) (h2 : (fs.hd (q x)).ev l1 = y) : (fs.hd (p.bind q)).ev l = y := by
 match fs, h1, h2 with
 | none, h1, h2 =>
  simp only [Fs.hd] at h1 h2 ⊢
  simp only [Z3p, h1, h2]
 | some ((r', w') :: fs), h1, h2 =>
  simp only [Fs.hd] at h1 h2 ⊢
  simp only [Zls, Z3p, h1, h2]
 | some [], h1, _ => cases h1
theorem Zme (hfs : fs ≠ some []) : ∀ {cs : List Cell} {l l' : LS} {ts : List T}, kO fs cs l ts l' -> (fs.hd (cS true cs)).ev l = some (ts, l')
 | _, _, _, _, .nil l => by
  match fs, hfs with
  | none, _ => rfl
  | some ((r', w') :: fs), _ => rfl
  | some [], hfs => exact absurd rfl hfs
 | _, _, _, _, .x (t := t) (ts := ts) (l' := l') (cs := cs) h => by
  have h1 := Zme hfs h
  refine Zmg h1 ?_
  match fs, hfs with
  | none, _ => rfl
  | some ((r', w') :: fs), _ => rfl
  | some [], hfs => exact absurd rfl hfs
 | _, _, _, _, .w h2 hn hlen hp hw h => by
  have h1 := Zme hfs h
  refine Zmg (Zmp h2 hn hlen hp hw) (Zmg h1 ?_)
  match fs, hfs with
  | none, _ => rfl
  | some ((r', w') :: fs), _ => rfl
  | some [], hfs => exact absurd rfl hfs
theorem Zmf {e v : Nat} {cells : List Cell} {ts : List T} (h0 : (fs.hd (Pg.rd v)).ev l = some (.st cells, l)) (hc : cells.any Cell.fy = false) (h : kO fs cells l ts l1) : (fs.hd (dz e true (.t v))).ev l = some (ts, l1) := by
 have hfs : fs ≠ some [] := fun e => by subst e; cases h0
 refine Zmg (p := raw e (.t v)) h0 ?_
 show (fs.hd (if cells.any Cell.fy = true then _ else cS true cells)).ev l = _
 rw [if_neg (by rw [hc]; simp)]
 exact Zme hfs h
theorem Zm5 {cs : List T} {j : Nat} {t : T} {p : List Nat} {x : Option T} (h : cs[j]? = some t) (h2 : t.nav p = x) : (T.a cs).nav (j :: p) = x := by
 simp only [T.nav, T.kid, h, Y86, h2]
theorem Zm6 {cs cs' : List T} {j : Nat} {t t' x : T} {p : List Nat} (h : cs[j]? = some t) (h2 : t.put p x = t') (h3 : cs.set j t' = cs') : (T.a cs).put (j :: p) x = .a cs' := by
 simp only [T.put, T.kid, h, T.aZ, h2, h3]
theorem Zmm {α : Type} {l : List α} {i : Nat} {x : α} (h : l[i]? = some x) : l.set i x = l := by
 refine Y25 fun j => ?_
 by_cases hj : i = j
 ·subst hj
  rw [Y39 (Y36.1 h).1, h]
 ·rw [Y38 hj]
end
end Go.Wr
namespace Go.Wr
def b3 (k : Int) : Bool := decide (Int.tmod k 3 = 0)
def ag.mk1 (x : ag) (k : Int) : ag × Int :=
 let k1 := sc k
 let k2 := sc k1
 let k3 := sc k2
 let k4 := sc k3
 let k5 := ((mkL iM) x.aW k4).2
 let k6 := ((mkL iM) x.aT k5).2
 let k7 := ((mkL (mkL iM)) x.Rows k6).2
 (⟨k, k1, k2, k3, ((mkL iM) x.aW k4).1, ((mkL iM) x.aT k5).1, ((mkL (mkL iM)) x.Rows k6).1⟩, k7)
def ag.w1 (x : ag) : Nat := 1 + 1 + 1 + 1 + (wL aI) x.aW + (wL aI) x.aT + (wL (wL aI)) x.Rows
theorem ag.ok1 : Mok ag.mk1 ag.w1 := fun x k r h h1 => by
 unfold ag.w1 at h1
 have a0 := Zi4 (r := 1 + 1 + 1 + (wL aI) x.aW + (wL aI) x.aT + (wL (wL aI)) x.Rows + r) h (by omega)
 have a0b := a0.2
 have a1 := Zi4 (r := 1 + 1 + (wL aI) x.aW + (wL aI) x.aT + (wL (wL aI)) x.Rows + r) a0.1 (by omega)
 have a1b := a1.2
 have a2 := Zi4 (r := 1 + (wL aI) x.aW + (wL aI) x.aT + (wL (wL aI)) x.Rows + r) a1.1 (by omega)
 have a2b := a2.2
 have a3 := Zi4 (r := (wL aI) x.aW + (wL aI) x.aT + (wL (wL aI)) x.Rows + r) a2.1 (by omega)
 have a3b := a3.2
 have a4 := (Zb6 Z86) x.aW _ ((wL aI) x.aT + (wL (wL aI)) x.Rows + r) a3.1 (by omega)
 have a4b := a4.2
 have a5 := (Zb6 Z86) x.aT _ ((wL (wL aI)) x.Rows + r) a4.1 (by omega)
 have a5b := a5.2
 have a6 := (Zb6 (Zb6 Z86)) x.Rows _ (r) a5.1 (by omega)
 have a6b := a6.2
 exact a6
def ag.mkS (x : ag) (k : Int) : ag × Int :=
 let k1 := ((mkL iM) x.aW k).2
 let k2 := ((mkL iM) x.aT k1).2
 let k3 := ((mkL (mkL iM)) x.Rows k2).2
 (⟨x.Count, x.Sum, x.Min, x.Max, ((mkL iM) x.aW k).1, ((mkL iM) x.aT k1).1, ((mkL (mkL iM)) x.Rows k2).1⟩, k3)
def ag.wS (x : ag) : Nat := (wL aI) x.aW + (wL aI) x.aT + (wL (wL aI)) x.Rows
theorem ag.okS : Mok ag.mkS ag.wS := fun x k r h h1 => by
 unfold ag.wS at h1
 have a0 := (Zb6 Z86) x.aW _ ((wL aI) x.aT + (wL (wL aI)) x.Rows + r) h (by omega)
 have a0b := a0.2
 have a1 := (Zb6 Z86) x.aT _ ((wL (wL aI)) x.Rows + r) a0.1 (by omega)
 have a1b := a1.2
 have a2 := (Zb6 (Zb6 Z86)) x.Rows _ (r) a1.1 (by omega)
 have a2b := a2.2
 exact a2
def aa.mk1 (x : aa) (k : Int) : aa × Int :=
 let k1 := sc k
 let k2 := sc k1
 (⟨k, k1⟩, k2)
def aa.w1 (x : aa) : Nat := 1 + 1
theorem aa.ok1 : Mok aa.mk1 aa.w1 := fun x k r h h1 => by
 unfold aa.w1 at h1
 have a0 := Zi4 (r := 1 + r) h (by omega)
 have a0b := a0.2
 have a1 := Zi4 (r := r) a0.1 (by omega)
 have a1b := a1.2
 exact a1
def aa.mkS (x : aa) (k : Int) : aa × Int :=
 (⟨x.Lo, x.Hi⟩, k)
def aa.wS (x : aa) : Nat := 0
theorem aa.okS : Mok aa.mkS aa.wS := fun x k r h h1 => by
 unfold aa.wS at h1
 exact ⟨h, by show k + (r : Int) <= bL; omega⟩
def ap.mk1 (x : ap) (k : Int) : ap × Int :=
 let k1 := sc k
 let k2 := sc k1
 let k3 := sc k2
 let k4 := sc k3
 let k5 := (ag.mk1 x.aj k4).2
 (⟨k, k1, k2, k3, (ag.mk1 x.aj k4).1⟩, k5)
def ap.w1 (x : ap) : Nat := 1 + 1 + 1 + 1 + ag.w1 x.aj
theorem ap.ok1 : Mok ap.mk1 ap.w1 := fun x k r h h1 => by
 unfold ap.w1 at h1
 have a0 := Zi4 (r := 1 + 1 + 1 + ag.w1 x.aj + r) h (by omega)
 have a0b := a0.2
 have a1 := Zi4 (r := 1 + 1 + ag.w1 x.aj + r) a0.1 (by omega)
 have a1b := a1.2
 have a2 := Zi4 (r := 1 + ag.w1 x.aj + r) a1.1 (by omega)
 have a2b := a2.2
 have a3 := Zi4 (r := ag.w1 x.aj + r) a2.1 (by omega)
 have a3b := a3.2
 have a4 := ag.ok1 x.aj _ (r) a3.1 (by omega)
 have a4b := a4.2
 exact a4
def ap.mkS (x : ap) (k : Int) : ap × Int :=
 let k1 := (ag.mkS x.aj k).2
 (⟨x.Seq, x.mq, x.Key, x.cJ, (ag.mkS x.aj k).1⟩, k1)
def ap.wS (x : ap) : Nat := ag.wS x.aj
theorem ap.okS : Mok ap.mkS ap.wS := fun x k r h h1 => by
 unfold ap.wS at h1
 have a0 := ag.okS x.aj _ (r) h (by omega)
 have a0b := a0.2
 exact a0
def ab.mk1 (x : ab) (k : Int) : ab × Int :=
 let k1 := sc k
 let k2 := sc k1
 let k3 := ((mkL aa.mk1) x.Ids k2).2
 let k4 := (ag.mk1 x.aj k3).2
 (⟨k, k1, ((mkL aa.mk1) x.Ids k2).1, (ag.mk1 x.aj k3).1⟩, k4)
def ab.w1 (x : ab) : Nat := 1 + 1 + (wL aa.w1) x.Ids + ag.w1 x.aj
theorem ab.ok1 : Mok ab.mk1 ab.w1 := fun x k r h h1 => by
 unfold ab.w1 at h1
 have a0 := Zi4 (r := 1 + (wL aa.w1) x.Ids + ag.w1 x.aj + r) h (by omega)
 have a0b := a0.2
 have a1 := Zi4 (r := (wL aa.w1) x.Ids + ag.w1 x.aj + r) a0.1 (by omega)
 have a1b := a1.2
 have a2 := (Zb6 aa.ok1) x.Ids _ (ag.w1 x.aj + r) a1.1 (by omega)
 have a2b := a2.2
 have a3 := ag.ok1 x.aj _ (r) a2.1 (by omega)
 have a3b := a3.2
 exact a3
def ab.mkS (x : ab) (k : Int) : ab × Int :=
 let k1 := ((mkL aa.mk1) x.Ids k).2
 let k2 := (ag.mkS x.aj k1).2
 (⟨x.Key, x.cJ, ((mkL aa.mk1) x.Ids k).1, (ag.mkS x.aj k1).1⟩, k2)
def ab.wS (x : ab) : Nat := (wL aa.w1) x.Ids + ag.wS x.aj
theorem ab.okS : Mok ab.mkS ab.wS := fun x k r h h1 => by
 unfold ab.wS at h1
 have a0 := (Zb6 aa.ok1) x.Ids _ (ag.wS x.aj + r) h (by omega)
 have a0b := a0.2
 have a1 := ag.okS x.aj _ (r) a0.1 (by omega)
 have a1b := a1.2
 exact a1
def aU.mk1 (x : aU) (k : Int) : aU × Int :=
 let k1 := sc k
 let k2 := sc k1
 let k3 := sc k2
 let k4 := sc k3
 let k5 := ((mkL aa.mk1) x.aJ k4).2
 let k6 := (ap.mk1 x.Item k5).2
 (⟨k, k1, k2, k3, ((mkL aa.mk1) x.aJ k4).1, (ap.mk1 x.Item k5).1⟩, k6)
def aU.w1 (x : aU) : Nat := 1 + 1 + 1 + 1 + (wL aa.w1) x.aJ + ap.w1 x.Item
theorem aU.ok1 : Mok aU.mk1 aU.w1 := fun x k r h h1 => by
 unfold aU.w1 at h1
 have a0 := Zi4 (r := 1 + 1 + 1 + (wL aa.w1) x.aJ + ap.w1 x.Item + r) h (by omega)
 have a0b := a0.2
 have a1 := Zi4 (r := 1 + 1 + (wL aa.w1) x.aJ + ap.w1 x.Item + r) a0.1 (by omega)
 have a1b := a1.2
 have a2 := Zi4 (r := 1 + (wL aa.w1) x.aJ + ap.w1 x.Item + r) a1.1 (by omega)
 have a2b := a2.2
 have a3 := Zi4 (r := (wL aa.w1) x.aJ + ap.w1 x.Item + r) a2.1 (by omega)
 have a3b := a3.2
 have a4 := (Zb6 aa.ok1) x.aJ _ (ap.w1 x.Item + r) a3.1 (by omega)
 have a4b := a4.2
 have a5 := ap.ok1 x.Item _ (r) a4.1 (by omega)
 have a5b := a5.2
 exact a5
def aU.mkS (x : aU) (k : Int) : aU × Int :=
 let k1 := ((mkL aa.mk1) x.aJ k).2
 let k2 := (ap.mkS x.Item k1).2
 (⟨x.Kind, x.BW, x.gp, x.cP, ((mkL aa.mk1) x.aJ k).1, (ap.mkS x.Item k1).1⟩, k2)
def aU.wS (x : aU) : Nat := (wL aa.w1) x.aJ + ap.wS x.Item
theorem aU.okS : Mok aU.mkS aU.wS := fun x k r h h1 => by
 unfold aU.wS at h1
 have a0 := (Zb6 aa.ok1) x.aJ _ (ap.wS x.Item + r) h (by omega)
 have a0b := a0.2
 have a1 := ap.okS x.Item _ (r) a0.1 (by omega)
 have a1b := a1.2
 exact a1
def ak.mk1 (x : ak) (k : Int) : ak × Int :=
 let k1 := sc k
 let k2 := sc k1
 let k3 := sc k2
 let k4 := sc k3
 let k5 := ((mkL ap.mk1) x.aX k4).2
 let k6 := ((mkL aa.mk1) x.aJ k5).2
 let k7 := sc k6
 (⟨k, k1, b3 k2, k3, ((mkL ap.mk1) x.aX k4).1, ((mkL aa.mk1) x.aJ k5).1, k6⟩, k7)
def ak.w1 (x : ak) : Nat := 1 + 1 + 1 + 1 + (wL ap.w1) x.aX + (wL aa.w1) x.aJ + 1
theorem ak.ok1 : Mok ak.mk1 ak.w1 := fun x k r h h1 => by
 unfold ak.w1 at h1
 have a0 := Zi4 (r := 1 + 1 + 1 + (wL ap.w1) x.aX + (wL aa.w1) x.aJ + 1 + r) h (by omega)
 have a0b := a0.2
 have a1 := Zi4 (r := 1 + 1 + (wL ap.w1) x.aX + (wL aa.w1) x.aJ + 1 + r) a0.1 (by omega)
 have a1b := a1.2
 have a2 := Zi4 (r := 1 + (wL ap.w1) x.aX + (wL aa.w1) x.aJ + 1 + r) a1.1 (by omega)
 have a2b := a2.2
 have a3 := Zi4 (r := (wL ap.w1) x.aX + (wL aa.w1) x.aJ + 1 + r) a2.1 (by omega)
 have a3b := a3.2
 have a4 := (Zb6 ap.ok1) x.aX _ ((wL aa.w1) x.aJ + 1 + r) a3.1 (by omega)
 have a4b := a4.2
 have a5 := (Zb6 aa.ok1) x.aJ _ (1 + r) a4.1 (by omega)
 have a5b := a5.2
 have a6 := Zi4 (r := r) a5.1 (by omega)
 have a6b := a6.2
 exact a6
def ak.mkS (x : ak) (k : Int) : ak × Int :=
 let k1 := ((mkL ap.mk1) x.aX k).2
 let k2 := ((mkL aa.mk1) x.aJ k1).2
 (⟨x.Id, x.gp, x.Live, x.cP, ((mkL ap.mk1) x.aX k).1, ((mkL aa.mk1) x.aJ k1).1, x.Next⟩, k2)
def ak.wS (x : ak) : Nat := (wL ap.w1) x.aX + (wL aa.w1) x.aJ
theorem ak.okS : Mok ak.mkS ak.wS := fun x k r h h1 => by
 unfold ak.wS at h1
 have a0 := (Zb6 ap.ok1) x.aX _ ((wL aa.w1) x.aJ + r) h (by omega)
 have a0b := a0.2
 have a1 := (Zb6 aa.ok1) x.aJ _ (r) a0.1 (by omega)
 have a1b := a1.2
 exact a1
def al.mk1 (x : al) (k : Int) : al × Int :=
 let k1 := sc k
 let k2 := sc k1
 let k3 := ((mkL aa.mk1) x.aJ k2).2
 let k4 := sc k3
 let k5 := sc k4
 (⟨k, k1, ((mkL aa.mk1) x.aJ k2).1, k3, k4⟩, k5)
def al.w1 (x : al) : Nat := 1 + 1 + (wL aa.w1) x.aJ + 1 + 1
theorem al.ok1 : Mok al.mk1 al.w1 := fun x k r h h1 => by
 unfold al.w1 at h1
 have a0 := Zi4 (r := 1 + (wL aa.w1) x.aJ + 1 + 1 + r) h (by omega)
 have a0b := a0.2
 have a1 := Zi4 (r := (wL aa.w1) x.aJ + 1 + 1 + r) a0.1 (by omega)
 have a1b := a1.2
 have a2 := (Zb6 aa.ok1) x.aJ _ (1 + 1 + r) a1.1 (by omega)
 have a2b := a2.2
 have a3 := Zi4 (r := 1 + r) a2.1 (by omega)
 have a3b := a3.2
 have a4 := Zi4 (r := r) a3.1 (by omega)
 have a4b := a4.2
 exact a4
def al.mkS (x : al) (k : Int) : al × Int :=
 let k1 := ((mkL aa.mk1) x.aJ k).2
 (⟨x.gp, x.cP, ((mkL aa.mk1) x.aJ k).1, x.fb, x.AA⟩, k1)
def al.wS (x : al) : Nat := (wL aa.w1) x.aJ
theorem al.okS : Mok al.mkS al.wS := fun x k r h h1 => by
 unfold al.wS at h1
 have a0 := (Zb6 aa.ok1) x.aJ _ (r) h (by omega)
 have a0b := a0.2
 exact a0
def ai.mk1 (x : ai) (k : Int) : ai × Int :=
 let k1 := ((mkL ab.mk1) x.Lst k).2
 (⟨((mkL ab.mk1) x.Lst k).1⟩, k1)
def ai.w1 (x : ai) : Nat := (wL ab.w1) x.Lst
theorem ai.ok1 : Mok ai.mk1 ai.w1 := fun x k r h h1 => by
 unfold ai.w1 at h1
 have a0 := (Zb6 ab.ok1) x.Lst _ (r) h (by omega)
 have a0b := a0.2
 exact a0
def ai.mkS (x : ai) (k : Int) : ai × Int :=
 let k1 := ((mkL ab.mk1) x.Lst k).2
 (⟨((mkL ab.mk1) x.Lst k).1⟩, k1)
def ai.wS (x : ai) : Nat := (wL ab.w1) x.Lst
theorem ai.okS : Mok ai.mkS ai.wS := fun x k r h h1 => by
 unfold ai.wS at h1
 have a0 := (Zb6 ab.ok1) x.Lst _ (r) h (by omega)
 have a0b := a0.2
 exact a0
def au.mk1 (x : au) (k : Int) : au × Int :=
 let k1 := sc k
 let k2 := sc k1
 let k3 := ((mkL iM) x.Left k2).2
 (⟨k, b3 k1, ((mkL iM) x.Left k2).1⟩, k3)
def au.w1 (x : au) : Nat := 1 + 1 + (wL aI) x.Left
theorem au.ok1 : Mok au.mk1 au.w1 := fun x k r h h1 => by
 unfold au.w1 at h1
 have a0 := Zi4 (r := 1 + (wL aI) x.Left + r) h (by omega)
 have a0b := a0.2
 have a1 := Zi4 (r := (wL aI) x.Left + r) a0.1 (by omega)
 have a1b := a1.2
 have a2 := (Zb6 Z86) x.Left _ (r) a1.1 (by omega)
 have a2b := a2.2
 exact a2
def au.mkS (x : au) (k : Int) : au × Int :=
 let k1 := ((mkL iM) x.Left k).2
 (⟨x.At, x.BX, ((mkL iM) x.Left k).1⟩, k1)
def au.wS (x : au) : Nat := (wL aI) x.Left
theorem au.okS : Mok au.mkS au.wS := fun x k r h h1 => by
 unfold au.wS at h1
 have a0 := (Zb6 Z86) x.Left _ (r) h (by omega)
 have a0b := a0.2
 exact a0
def aN.mk1 (x : aN) (k : Int) : aN × Int :=
 let k1 := sc k
 let k2 := sc k1
 let k3 := sc k2
 let k4 := ((mkL iM) x.bY k3).2
 let k5 := sc k4
 let k6 := sc k5
 let k7 := sc k6
 let k8 := sc k7
 (⟨k, k1, k2, ((mkL iM) x.bY k3).1, k4, k5, k6, k7⟩, k8)
def aN.w1 (x : aN) : Nat := 1 + 1 + 1 + (wL aI) x.bY + 1 + 1 + 1 + 1
theorem aN.ok1 : Mok aN.mk1 aN.w1 := fun x k r h h1 => by
 unfold aN.w1 at h1
 have a0 := Zi4 (r := 1 + 1 + (wL aI) x.bY + 1 + 1 + 1 + 1 + r) h (by omega)
 have a0b := a0.2
 have a1 := Zi4 (r := 1 + (wL aI) x.bY + 1 + 1 + 1 + 1 + r) a0.1 (by omega)
 have a1b := a1.2
 have a2 := Zi4 (r := (wL aI) x.bY + 1 + 1 + 1 + 1 + r) a1.1 (by omega)
 have a2b := a2.2
 have a3 := (Zb6 Z86) x.bY _ (1 + 1 + 1 + 1 + r) a2.1 (by omega)
 have a3b := a3.2
 have a4 := Zi4 (r := 1 + 1 + 1 + r) a3.1 (by omega)
 have a4b := a4.2
 have a5 := Zi4 (r := 1 + 1 + r) a4.1 (by omega)
 have a5b := a5.2
 have a6 := Zi4 (r := 1 + r) a5.1 (by omega)
 have a6b := a6.2
 have a7 := Zi4 (r := r) a6.1 (by omega)
 have a7b := a7.2
 exact a7
def aN.mkS (x : aN) (k : Int) : aN × Int :=
 let k1 := ((mkL iM) x.bY k).2
 (⟨x.Per, x.jM, x.mr, ((mkL iM) x.bY k).1, x.px, x.py, x.mw, x.Still⟩, k1)
def aN.wS (x : aN) : Nat := (wL aI) x.bY
theorem aN.okS : Mok aN.mkS aN.wS := fun x k r h h1 => by
 unfold aN.wS at h1
 have a0 := (Zb6 Z86) x.bY _ (r) h (by omega)
 have a0b := a0.2
 exact a0
def ay.mk1 (x : ay) (k : Int) : ay × Int :=
 let k1 := sc k
 let k2 := (ab.mk1 x.aL k1).2
 (⟨k, (ab.mk1 x.aL k1).1⟩, k2)
def ay.w1 (x : ay) : Nat := 1 + ab.w1 x.aL
theorem ay.ok1 : Mok ay.mk1 ay.w1 := fun x k r h h1 => by
 unfold ay.w1 at h1
 have a0 := Zi4 (r := ab.w1 x.aL + r) h (by omega)
 have a0b := a0.2
 have a1 := ab.ok1 x.aL _ (r) a0.1 (by omega)
 have a1b := a1.2
 exact a1
def ay.mkS (x : ay) (k : Int) : ay × Int :=
 let k1 := (ab.mkS x.aL k).2
 (⟨x.Gen, (ab.mkS x.aL k).1⟩, k1)
def ay.wS (x : ay) : Nat := ab.wS x.aL
theorem ay.okS : Mok ay.mkS ay.wS := fun x k r h h1 => by
 unfold ay.wS at h1
 have a0 := ab.okS x.aL _ (r) h (by omega)
 have a0b := a0.2
 exact a0
def ao.mk1 (x : ao) (k : Int) : ao × Int :=
 let k1 := (aN.mk1 x.bP k).2
 let k2 := sc k1
 let k3 := sc k2
 let k4 := ((mkL al.mk1) x.aO k3).2
 let k5 := ((mkL (mkL ai.mk1)) x.Rows k4).2
 let k6 := ((mkL au.mk1) x.bX k5).2
 let k7 := sc k6
 let k8 := ((mkL ab.mk1) x.aH k7).2
 let k9 := ((mkL ay.mk1) x.aY k8).2
 (⟨(aN.mk1 x.bP k).1, k1, b3 k2, ((mkL al.mk1) x.aO k3).1, ((mkL (mkL ai.mk1)) x.Rows k4).1, ((mkL au.mk1) x.bX k5).1, k6, ((mkL ab.mk1) x.aH k7).1, ((mkL ay.mk1) x.aY k8).1⟩, k9)
def ao.w1 (x : ao) : Nat := aN.w1 x.bP + 1 + 1 + (wL al.w1) x.aO + (wL (wL ai.w1)) x.Rows + (wL au.w1) x.bX + 1 + (wL ab.w1) x.aH + (wL ay.w1) x.aY
theorem ao.ok1 : Mok ao.mk1 ao.w1 := fun x k r h h1 => by
 unfold ao.w1 at h1
 have a0 := aN.ok1 x.bP _ (1 + 1 + (wL al.w1) x.aO + (wL (wL ai.w1)) x.Rows + (wL au.w1) x.bX + 1 + (wL ab.w1) x.aH + (wL ay.w1) x.aY + r) h (by omega)
 have a0b := a0.2
 have a1 := Zi4 (r := 1 + (wL al.w1) x.aO + (wL (wL ai.w1)) x.Rows + (wL au.w1) x.bX + 1 + (wL ab.w1) x.aH + (wL ay.w1) x.aY + r) a0.1 (by omega)
 have a1b := a1.2
 have a2 := Zi4 (r := (wL al.w1) x.aO + (wL (wL ai.w1)) x.Rows + (wL au.w1) x.bX + 1 + (wL ab.w1) x.aH + (wL ay.w1) x.aY + r) a1.1 (by omega)
 have a2b := a2.2
 have a3 := (Zb6 al.ok1) x.aO _ ((wL (wL ai.w1)) x.Rows + (wL au.w1) x.bX + 1 + (wL ab.w1) x.aH + (wL ay.w1) x.aY + r) a2.1 (by omega)
 have a3b := a3.2
 have a4 := (Zb6 (Zb6 ai.ok1)) x.Rows _ ((wL au.w1) x.bX + 1 + (wL ab.w1) x.aH + (wL ay.w1) x.aY + r) a3.1 (by omega)
 have a4b := a4.2
 have a5 := (Zb6 au.ok1) x.bX _ (1 + (wL ab.w1) x.aH + (wL ay.w1) x.aY + r) a4.1 (by omega)
 have a5b := a5.2
 have a6 := Zi4 (r := (wL ab.w1) x.aH + (wL ay.w1) x.aY + r) a5.1 (by omega)
 have a6b := a6.2
 have a7 := (Zb6 ab.ok1) x.aH _ ((wL ay.w1) x.aY + r) a6.1 (by omega)
 have a7b := a7.2
 have a8 := (Zb6 ay.ok1) x.aY _ (r) a7.1 (by omega)
 have a8b := a8.2
 exact a8
def ao.mkS (x : ao) (k : Int) : ao × Int :=
 let k1 := (aN.mkS x.bP k).2
 let k2 := ((mkL al.mk1) x.aO k1).2
 let k3 := ((mkL (mkL ai.mk1)) x.Rows k2).2
 let k4 := ((mkL au.mk1) x.bX k3).2
 let k5 := ((mkL ab.mk1) x.aH k4).2
 let k6 := ((mkL ay.mk1) x.aY k5).2
 (⟨(aN.mkS x.bP k).1, x.lA, x.pz, ((mkL al.mk1) x.aO k1).1, ((mkL (mkL ai.mk1)) x.Rows k2).1, ((mkL au.mk1) x.bX k3).1, x.js, ((mkL ab.mk1) x.aH k4).1, ((mkL ay.mk1) x.aY k5).1⟩, k6)
def ao.wS (x : ao) : Nat := aN.wS x.bP + (wL al.w1) x.aO + (wL (wL ai.w1)) x.Rows + (wL au.w1) x.bX + (wL ab.w1) x.aH + (wL ay.w1) x.aY
theorem ao.okS : Mok ao.mkS ao.wS := fun x k r h h1 => by
 unfold ao.wS at h1
 have a0 := aN.okS x.bP _ ((wL al.w1) x.aO + (wL (wL ai.w1)) x.Rows + (wL au.w1) x.bX + (wL ab.w1) x.aH + (wL ay.w1) x.aY + r) h (by omega)
 have a0b := a0.2
 have a1 := (Zb6 al.ok1) x.aO _ ((wL (wL ai.w1)) x.Rows + (wL au.w1) x.bX + (wL ab.w1) x.aH + (wL ay.w1) x.aY + r) a0.1 (by omega)
 have a1b := a1.2
 have a2 := (Zb6 (Zb6 ai.ok1)) x.Rows _ ((wL au.w1) x.bX + (wL ab.w1) x.aH + (wL ay.w1) x.aY + r) a1.1 (by omega)
 have a2b := a2.2
 have a3 := (Zb6 au.ok1) x.bX _ ((wL ab.w1) x.aH + (wL ay.w1) x.aY + r) a2.1 (by omega)
 have a3b := a3.2
 have a4 := (Zb6 ab.ok1) x.aH _ ((wL ay.w1) x.aY + r) a3.1 (by omega)
 have a4b := a4.2
 have a5 := (Zb6 ay.ok1) x.aY _ (r) a4.1 (by omega)
 have a5b := a5.2
 exact a5
def aB.mk1 (x : aB) (k : Int) : aB × Int :=
 let k1 := sc k
 let k2 := ((mkL bM) x.Bytes k1).2
 let k3 := sc k2
 (⟨k, ((mkL bM) x.Bytes k1).1, b3 k2⟩, k3)
def aB.w1 (x : aB) : Nat := 1 + (wL aI) x.Bytes + 1
theorem aB.ok1 : Mok aB.mk1 aB.w1 := fun x k r h h1 => by
 unfold aB.w1 at h1
 have a0 := Zi4 (r := (wL aI) x.Bytes + 1 + r) h (by omega)
 have a0b := a0.2
 have a1 := (Zb6 Z17) x.Bytes _ (1 + r) a0.1 (by omega)
 have a1b := a1.2
 have a2 := Zi4 (r := r) a1.1 (by omega)
 have a2b := a2.2
 exact a2
def aB.mkS (x : aB) (k : Int) : aB × Int :=
 let k1 := ((mkL bM) x.Bytes k).2
 (⟨x.To, ((mkL bM) x.Bytes k).1, x.y6⟩, k1)
def aB.wS (x : aB) : Nat := (wL aI) x.Bytes
theorem aB.okS : Mok aB.mkS aB.wS := fun x k r h h1 => by
 unfold aB.wS at h1
 have a0 := (Zb6 Z17) x.Bytes _ (r) h (by omega)
 have a0b := a0.2
 exact a0
def aG.mk1 (x : aG) (k : Int) : aG × Int :=
 let k1 := ((mkL ak.mk1) x.bj k).2
 let k2 := (ao.mk1 x.bJ k1).2
 let k3 := ((mkL aB.mk1) x.Net k2).2
 (⟨((mkL ak.mk1) x.bj k).1, (ao.mk1 x.bJ k1).1, ((mkL aB.mk1) x.Net k2).1⟩, k3)
def aG.w1 (x : aG) : Nat := (wL ak.w1) x.bj + ao.w1 x.bJ + (wL aB.w1) x.Net
theorem aG.ok1 : Mok aG.mk1 aG.w1 := fun x k r h h1 => by
 unfold aG.w1 at h1
 have a0 := (Zb6 ak.ok1) x.bj _ (ao.w1 x.bJ + (wL aB.w1) x.Net + r) h (by omega)
 have a0b := a0.2
 have a1 := ao.ok1 x.bJ _ ((wL aB.w1) x.Net + r) a0.1 (by omega)
 have a1b := a1.2
 have a2 := (Zb6 aB.ok1) x.Net _ (r) a1.1 (by omega)
 have a2b := a2.2
 exact a2
def aG.mkS (x : aG) (k : Int) : aG × Int :=
 let k1 := ((mkL ak.mk1) x.bj k).2
 let k2 := (ao.mkS x.bJ k1).2
 let k3 := ((mkL aB.mk1) x.Net k2).2
 (⟨((mkL ak.mk1) x.bj k).1, (ao.mkS x.bJ k1).1, ((mkL aB.mk1) x.Net k2).1⟩, k3)
def aG.wS (x : aG) : Nat := (wL ak.w1) x.bj + ao.wS x.bJ + (wL aB.w1) x.Net
theorem aG.okS : Mok aG.mkS aG.wS := fun x k r h h1 => by
 unfold aG.wS at h1
 have a0 := (Zb6 ak.ok1) x.bj _ (ao.wS x.bJ + (wL aB.w1) x.Net + r) h (by omega)
 have a0b := a0.2
 have a1 := ao.okS x.bJ _ ((wL aB.w1) x.Net + r) a0.1 (by omega)
 have a1b := a1.2
 have a2 := (Zb6 aB.ok1) x.Net _ (r) a1.1 (by omega)
 have a2b := a2.2
 exact a2
def bf.mk1 (x : bf) (k : Int) : bf × Int :=
 let k1 := sc k
 let k2 := sc k1
 let k3 := sc k2
 let k4 := sc k3
 let k5 := sc k4
 let k6 := ((mkL iM) x.Lst k5).2
 (⟨k, k1, k2, k3, k4, ((mkL iM) x.Lst k5).1⟩, k6)
def bf.w1 (x : bf) : Nat := 1 + 1 + 1 + 1 + 1 + (wL aI) x.Lst
theorem bf.ok1 : Mok bf.mk1 bf.w1 := fun x k r h h1 => by
 unfold bf.w1 at h1
 have a0 := Zi4 (r := 1 + 1 + 1 + 1 + (wL aI) x.Lst + r) h (by omega)
 have a0b := a0.2
 have a1 := Zi4 (r := 1 + 1 + 1 + (wL aI) x.Lst + r) a0.1 (by omega)
 have a1b := a1.2
 have a2 := Zi4 (r := 1 + 1 + (wL aI) x.Lst + r) a1.1 (by omega)
 have a2b := a2.2
 have a3 := Zi4 (r := 1 + (wL aI) x.Lst + r) a2.1 (by omega)
 have a3b := a3.2
 have a4 := Zi4 (r := (wL aI) x.Lst + r) a3.1 (by omega)
 have a4b := a4.2
 have a5 := (Zb6 Z86) x.Lst _ (r) a4.1 (by omega)
 have a5b := a5.2
 exact a5
def bf.mkS (x : bf) (k : Int) : bf × Int :=
 let k1 := ((mkL iM) x.Lst k).2
 (⟨x.Kind, x.A, x.B, x.C, x.D, ((mkL iM) x.Lst k).1⟩, k1)
def bf.wS (x : bf) : Nat := (wL aI) x.Lst
theorem bf.okS : Mok bf.mkS bf.wS := fun x k r h h1 => by
 unfold bf.wS at h1
 have a0 := (Zb6 Z86) x.Lst _ (r) h (by omega)
 have a0b := a0.2
 exact a0
end Go.Wr
namespace Go.Wr
theorem Z87 (x : Int) : (iT x).closed = true := rfl
theorem Z85 (x : UInt8) : (iB x).closed = true := rfl
theorem Z8p (l : List Int) : (ints .y l).closed = true := Z2p Z87 l
theorem ag.cl (x : ag) : ba (x.cs .y) = true := by
 simp only [ag.cs, ba, T.closed, Z2p Z87, Z2p Z85, Z2p Z8p, Y4, Y5]
theorem ag.cle (x : ag) : (ag.el .y x).closed = true := ag.cl x
theorem ag.cll (l : List ag) : (ag.ls .y l).closed = true := Z2p ag.cle l
theorem aa.cl (x : aa) : ba (x.cs .y) = true := by
 simp only [aa.cs, ba, T.closed, Z2p Z87, Z2p Z85, Z2p Z8p, Y4, Y5]
theorem aa.cle (x : aa) : (aa.el .y x).closed = true := aa.cl x
theorem aa.cll (l : List aa) : (aa.ls .y l).closed = true := Z2p aa.cle l
theorem ap.cl (x : ap) : ba (x.cs .y) = true := by
 simp only [ap.cs, ba, T.closed, Z2p Z87, Z2p Z85, Z2p Z8p, Y4, Y5]
theorem ap.cle (x : ap) : (ap.el .y x).closed = true := ap.cl x
theorem ap.cll (l : List ap) : (ap.ls .y l).closed = true := Z2p ap.cle l
theorem ab.cl (x : ab) : ba (x.cs .y) = true := by
 simp only [ab.cs, ba, T.closed, Z2p Z87, Z2p Z85, Z2p Z8p, Y4, Y5, Z2p aa.cle]
theorem ab.cle (x : ab) : (ab.el .y x).closed = true := ab.cl x
theorem ab.cll (l : List ab) : (ab.ls .y l).closed = true := Z2p ab.cle l
theorem aU.cl (x : aU) : ba (x.cs .y) = true := by
 simp only [aU.cs, ba, T.closed, Z2p Z87, Z2p Z85, Z2p Z8p, Y4, Y5, Z2p aa.cle]
theorem aU.cle (x : aU) : (aU.el .y x).closed = true := aU.cl x
theorem aU.cll (l : List aU) : (aU.ls .y l).closed = true := Z2p aU.cle l
theorem ak.cl (x : ak) : ba (x.cs .y) = true := by
 simp only [ak.cs, ba, T.closed, Z2p Z87, Z2p Z85, Z2p Z8p, Y4, Y5, Z2p ap.cle, Z2p aa.cle]
theorem ak.cle (x : ak) : (ak.el .y x).closed = true := ak.cl x
theorem ak.cll (l : List ak) : (ak.ls .y l).closed = true := Z2p ak.cle l
theorem al.cl (x : al) : ba (x.cs .y) = true := by
 simp only [al.cs, ba, T.closed, Z2p Z87, Z2p Z85, Z2p Z8p, Y4, Y5, Z2p aa.cle]
theorem al.cle (x : al) : (al.el .y x).closed = true := al.cl x
theorem al.cll (l : List al) : (al.ls .y l).closed = true := Z2p al.cle l
theorem ai.cl (x : ai) : ba (x.cs .y) = true := by
 simp only [ai.cs, ba, T.closed, Z2p Z87, Z2p Z85, Z2p Z8p, Y4, Y5, Z2p ab.cle]
theorem ai.cle (x : ai) : (ai.el .y x).closed = true := ai.cl x
theorem ai.cll (l : List ai) : (ai.ls .y l).closed = true := Z2p ai.cle l
theorem au.cl (x : au) : ba (x.cs .y) = true := by
 simp only [au.cs, ba, T.closed, Z2p Z87, Z2p Z85, Z2p Z8p, Y4, Y5]
theorem au.cle (x : au) : (au.el .y x).closed = true := au.cl x
theorem au.cll (l : List au) : (au.ls .y l).closed = true := Z2p au.cle l
theorem aN.cl (x : aN) : ba (x.cs .y) = true := by
 simp only [aN.cs, ba, T.closed, Z2p Z87, Z2p Z85, Z2p Z8p, Y4, Y5]
theorem aN.cle (x : aN) : (aN.el .y x).closed = true := aN.cl x
theorem aN.cll (l : List aN) : (aN.ls .y l).closed = true := Z2p aN.cle l
theorem ay.cl (x : ay) : ba (x.cs .y) = true := by
 simp only [ay.cs, ba, T.closed, Z2p Z87, Z2p Z85, Z2p Z8p, Y4, Y5, Z2p aa.cle]
theorem ay.cle (x : ay) : (ay.el .y x).closed = true := ay.cl x
theorem ay.cll (l : List ay) : (ay.ls .y l).closed = true := Z2p ay.cle l
theorem ao.cl (x : ao) : ba (x.cs .y) = true := by
 simp only [ao.cs, ba, T.closed, Z2p Z87, Z2p Z85, Z2p Z8p, Y4, Y5, Z2p ab.cle, Z2p ay.cle, Z2p ai.cll, Z2p al.cle, Z2p au.cle]
theorem ao.cle (x : ao) : (ao.el .y x).closed = true := ao.cl x
theorem ao.cll (l : List ao) : (ao.ls .y l).closed = true := Z2p ao.cle l
theorem aB.cl (x : aB) : ba (x.cs .y) = true := by
 simp only [aB.cs, ba, T.closed, Z2p Z87, Z2p Z85, Z2p Z8p, Y4, Y5]
theorem aB.cle (x : aB) : (aB.el .y x).closed = true := aB.cl x
theorem aB.cll (l : List aB) : (aB.ls .y l).closed = true := Z2p aB.cle l
theorem aG.cl (x : aG) : ba (x.cs .y) = true := by
 simp only [aG.cs, ba, T.closed, Z2p Z87, Z2p Z85, Z2p Z8p, Y4, Y5, Z2p ak.cle, Z2p ab.cle, Z2p ay.cle, Z2p aB.cle, Z2p ai.cll, Z2p al.cle, Z2p au.cle]
theorem aG.cle (x : aG) : (aG.el .y x).closed = true := aG.cl x
theorem aG.cll (l : List aG) : (aG.ls .y l).closed = true := Z2p aG.cle l
theorem bf.cl (x : bf) : ba (x.cs .y) = true := by
 simp only [bf.cs, ba, T.closed, Z2p Z87, Z2p Z85, Z2p Z8p, Y4, Y5]
theorem bf.cle (x : bf) : (bf.el .y x).closed = true := bf.cl x
theorem bf.cll (l : List bf) : (bf.ls .y l).closed = true := Z2p bf.cle l
theorem Z2f {hs : List Hand} {cs : List T} (hc : ba cs = true) (ha : apart hs = true) : db hs ⟨[.st cs], []⟩ = true := by
 simp only [db, ha, Y17, Y19, RV.closed, hc, RV.fi, Y4, Bool.or_true]
end Go.Wr

