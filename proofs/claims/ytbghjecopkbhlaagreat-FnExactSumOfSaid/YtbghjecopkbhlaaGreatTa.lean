/-
  What is proved: lemmas on the way to the laws of this seat. No condition.
-/
import Derived.Test.YtbghjecopkbhlaaGreatRc
import Derived.IntWalk
import Derived.Test.YtbghjecopkbhlaaGreatRd
set_option linter.unusedVariables false
set_option linter.unusedSimpArgs false
namespace Go.Wr
abbrev iT (n : Int) : T := .i .i64 n
abbrev iB (n : UInt8) : T := .i .u8 n.toNat
abbrev ints (o : Ob) (l : List Int) : T := .l o 1 (l.map iT)
abbrev bytes (o : Ob) (l : List UInt8) : T := .l o 1 (l.map iB)
abbrev GInt.lss (o : Ob) (l : List (List Int)) : T := .l o 1 (l.map (ints o))
theorem Z6u {α : Type} (f : α -> T) (l : List α) : fzs (l.map f) = l.map fun x => (f x).fz := by rw [Z6x, Y51]; rfl
theorem Z6s : (fun x => (iT x).fz) = iT := rfl
theorem Z6q : (fun x => (iB x).fz) = iB := rfl
theorem Z6t (o : Ob) : (fun l => (ints o l).fz) = ints .n := by funext x; simp only [ints, T.fz, Z6u]
def bulks {α : Type} (f : α -> Nat) (l : List α) : Nat := l.length + (l.map f).sum
def fits {α : Type} (p : α -> Prop) (l : List α) : Prop := l.length <= maxLen /\ ∀ x ∈ l, p x
theorem Z1t {α : Type} (f : α -> Nat) (l : List α) : l.length <= bulks f l := by unfold bulks; omega
theorem Z1v {α : Type} {f : α -> Nat} {l : List α} {i : Nat} {x : α} (h : l[i]? = some x) : f x <= bulks f l := by
 have : ∀ {l : List α} {i : Nat}, l[i]? = some x -> f x <= (l.map f).sum := by
  intro l
  induction l with
  | nil => intro i h; simp at h
  | cons a l ih =>
   intro i h
   cases i with
   | zero => simp at h; subst h; simp
   | succ i => have := ih (i := i) (by simpa using h); simp; omega
 have := this h
 unfold bulks; omega
theorem Z7w {fs : List Ty} {ts : List T} (h : HasTy (.st fs) ts) : HasTys fs ts := by simpa only [HasTy] using h
theorem Z7x {f : Ty} {fs : List Ty} {ts : List T} (h : HasTys (f :: fs) ts) : ∃ a b, ts = a ++ b /\ HasTy f a /\ HasTys fs b := by simpa only [HasTys] using h
theorem Z7y {ts : List T} (h : HasTys [] ts) : ts = [] := by simpa only [HasTys] using h
theorem Z7u {ts : List T} (h : HasTy (.i .i64) ts) : ∃ n, ts = [iT n] := by
 simp only [HasTy] at h
 obtain ⟨n, rfl, _⟩ := h
 exact ⟨n, rfl⟩
theorem Z7t {ts : List T} (h : HasTy .b ts) : ∃ n, ts = [.b n] := by
 simp only [HasTy] at h
 exact h
theorem Zas {α β : Type} {f : α -> β} {p : α -> Prop} : ∀ {es : List β}, (∀ x ∈ es, ∃ a, x = f a /\ p a) -> ∃ l : List α, es = l.map f /\ ∀ x ∈ l, p x
 | [], _ => ⟨[], rfl, by simp⟩
 | x :: es, h => by
  obtain ⟨a, rfl, ha⟩ := h x Y57
  obtain ⟨l, rfl, hl⟩ := Zas fun y hy => h y (Y56 _ hy)
  exact ⟨a :: l, rfl, by simpa using ⟨ha, hl⟩⟩
theorem Za0 {α : Type} {e : Ty} {el : α -> T} {p : α -> Prop} {ts : List T} (h : HasTy (.l e) ts) (he : ∀ cs, HasTy e cs -> ∃ x, elemT e.agg cs = el x /\ p x) : ∃ l : List α, ts = [.l .n e.size (l.map el)] /\ fits p l := by
 simp only [HasTy] at h
 obtain ⟨es, rfl, hl, hes⟩ := h
 obtain ⟨l, rfl, hp⟩ := Zas (f := el) (p := p) fun x hx => by
  obtain ⟨cs, hc, rfl⟩ := hes x hx
  exact he cs hc
 exact ⟨l, rfl, by simpa using hl, hp⟩
theorem Z8q {ts : List T} (h : HasTy (.l (.i .i64)) ts) : ∃ l : List Int, ts = [ints .n l] /\ l.length <= maxLen := by
 obtain ⟨l, rfl, h1, _⟩ := Za0 (el := iT) (p := fun _ => True) h fun cs hc => by
  obtain ⟨n, rfl⟩ := Z7u hc
  exact ⟨n, rfl, trivial⟩
 exact ⟨l, rfl, h1⟩
theorem Z22 {ts : List T} (h : HasTy (.l (.i .u8)) ts) : ∃ l : List UInt8, ts = [bytes .n l] /\ l.length <= maxLen := by
 obtain ⟨l, rfl, h1, _⟩ := Za0 (el := iB) (p := fun _ => True) h fun cs hc => by
  simp only [HasTy] at hc
  obtain ⟨n, rfl, h0, h1⟩ := hc
  have : IntKind.min .u8 = 0 := by decide
  have : IntKind.max .u8 = 255 := by decide
  refine ⟨UInt8.ofNat n.toNat, ?_, trivial⟩
  simp only [elemT, Ty.agg, List.headD_cons, Y9, if_false, T.i.injEq, true_and]
  rw [UInt8.toNat_ofNat_of_lt' (by simp [UInt8.size]; omega)]
  omega
 exact ⟨l, rfl, h1⟩
theorem Z8r {ts : List T} (h : HasTy (.l (.l (.i .i64))) ts) : ∃ l : List (List Int), ts = [GInt.lss .n l] /\ fits (fun l => l.length <= maxLen) l := Za0 (el := ints .n) h fun cs hc => by
 obtain ⟨n, rfl, hn⟩ := Z8q hc
 exact ⟨n, rfl, hn⟩
structure GSketch where
 Count : Int
 Sum : Int
 Min : Int
 Max : Int
 Hist : List Int
 Regs : List Int
 Rows : List (List Int)
 deriving DecidableEq, Inhabited
def GSketch.cs (o : Ob) (x : GSketch) : List T := [iT x.Count, iT x.Sum, iT x.Min, iT x.Max, ints o x.Hist, ints o x.Regs, GInt.lss o x.Rows]
def GSketch.el (o : Ob) (x : GSketch) : T := .a (x.cs o)
abbrev GSketch.ls (o : Ob) (l : List GSketch) : T := .l o 7 (l.map (GSketch.el o))
def GSketch.bulk (x : GSketch) : Nat := x.Hist.length + x.Regs.length + bulks List.length x.Rows
def GSketch.fit (x : GSketch) : Prop := x.Hist.length <= maxLen /\ x.Regs.length <= maxLen /\ fits (fun l => l.length <= maxLen) x.Rows
abbrev GSketch.ty : Ty := .st [.i .i64, .i .i64, .i .i64, .i .i64, .l (.i .i64), .l (.i .i64), .l (.l (.i .i64))]
theorem GSketch.fz (o : Ob) (x : GSketch) : fzs (x.cs o) = x.cs .n := by simp only [GSketch.cs, fzs, T.fz, Z6u, Z6s, Z6q, Z6t]
theorem GSketch.fze (o : Ob) : (fun x => ((GSketch.el o) x).fz) = GSketch.el .n := by funext x; simp only [GSketch.el, T.fz, GSketch.fz]
theorem GSketch.of {ts : List T} (h : HasTy GSketch.ty ts) : ∃ x : GSketch, ts = x.cs .n /\ x.fit := by
 have h := Z7w h
 obtain ⟨_, _, rfl, h0, h⟩ := Z7x h
 obtain ⟨_, _, rfl, h1, h⟩ := Z7x h
 obtain ⟨_, _, rfl, h2, h⟩ := Z7x h
 obtain ⟨_, _, rfl, h3, h⟩ := Z7x h
 obtain ⟨_, _, rfl, h4, h⟩ := Z7x h
 obtain ⟨_, _, rfl, h5, h⟩ := Z7x h
 obtain ⟨_, _, rfl, h6, h⟩ := Z7x h
 obtain rfl := Z7y h
 obtain ⟨x0, rfl⟩ := Z7u h0
 obtain ⟨x1, rfl⟩ := Z7u h1
 obtain ⟨x2, rfl⟩ := Z7u h2
 obtain ⟨x3, rfl⟩ := Z7u h3
 obtain ⟨x4, rfl, f4⟩ := Z8q h4
 obtain ⟨x5, rfl, f5⟩ := Z8q h5
 obtain ⟨x6, rfl, f6⟩ := Z8r h6
 exact ⟨⟨x0, x1, x2, x3, x4, x5, x6⟩, rfl, ⟨f4, f5, f6⟩⟩
theorem GSketch.ofL {ts : List T} (h : HasTy (.l GSketch.ty) ts) : ∃ l : List GSketch, ts = [GSketch.ls .n l] /\ fits GSketch.fit l := Za0 (el := GSketch.el .n) h fun cs hc => by
 obtain ⟨x, rfl, hx⟩ := GSketch.of hc
 exact ⟨x, rfl, hx⟩
structure GSpan where
 Lo : Int
 Hi : Int
 deriving DecidableEq, Inhabited
def GSpan.cs (o : Ob) (x : GSpan) : List T := [iT x.Lo, iT x.Hi]
def GSpan.el (o : Ob) (x : GSpan) : T := .a (x.cs o)
abbrev GSpan.ls (o : Ob) (l : List GSpan) : T := .l o 2 (l.map (GSpan.el o))
def GSpan.bulk (x : GSpan) : Nat := 0
def GSpan.fit (x : GSpan) : Prop := True
abbrev GSpan.ty : Ty := .st [.i .i64, .i .i64]
theorem GSpan.fz (o : Ob) (x : GSpan) : fzs (x.cs o) = x.cs .n := by simp only [GSpan.cs, fzs, T.fz, Z6u, Z6s, Z6q, Z6t]
theorem GSpan.fze (o : Ob) : (fun x => ((GSpan.el o) x).fz) = GSpan.el .n := by funext x; simp only [GSpan.el, T.fz, GSpan.fz]
theorem GSpan.of {ts : List T} (h : HasTy GSpan.ty ts) : ∃ x : GSpan, ts = x.cs .n /\ x.fit := by
 have h := Z7w h
 obtain ⟨_, _, rfl, h0, h⟩ := Z7x h
 obtain ⟨_, _, rfl, h1, h⟩ := Z7x h
 obtain rfl := Z7y h
 obtain ⟨x0, rfl⟩ := Z7u h0
 obtain ⟨x1, rfl⟩ := Z7u h1
 exact ⟨⟨x0, x1⟩, rfl, trivial⟩
theorem GSpan.ofL {ts : List T} (h : HasTy (.l GSpan.ty) ts) : ∃ l : List GSpan, ts = [GSpan.ls .n l] /\ fits GSpan.fit l := Za0 (el := GSpan.el .n) h fun cs hc => by
 obtain ⟨x, rfl, hx⟩ := GSpan.of hc
 exact ⟨x, rfl, hx⟩
structure GItem where
 Seq : Int
 Class : Int
 Key : Int
 Window : Int
 Sketch : GSketch
 deriving DecidableEq, Inhabited
def GItem.cs (o : Ob) (x : GItem) : List T := [iT x.Seq, iT x.Class, iT x.Key, iT x.Window, iT x.Sketch.Count, iT x.Sketch.Sum, iT x.Sketch.Min, iT x.Sketch.Max, ints o x.Sketch.Hist, ints o x.Sketch.Regs, GInt.lss o x.Sketch.Rows]
def GItem.el (o : Ob) (x : GItem) : T := .a (x.cs o)
abbrev GItem.ls (o : Ob) (l : List GItem) : T := .l o 11 (l.map (GItem.el o))
def GItem.bulk (x : GItem) : Nat := x.Sketch.bulk
def GItem.fit (x : GItem) : Prop := x.Sketch.fit
abbrev GItem.ty : Ty := .st [.i .i64, .i .i64, .i .i64, .i .i64, GSketch.ty]
theorem GItem.fz (o : Ob) (x : GItem) : fzs (x.cs o) = x.cs .n := by simp only [GItem.cs, fzs, T.fz, Z6u, Z6s, Z6q, Z6t]
theorem GItem.fze (o : Ob) : (fun x => ((GItem.el o) x).fz) = GItem.el .n := by funext x; simp only [GItem.el, T.fz, GItem.fz]
theorem GItem.of {ts : List T} (h : HasTy GItem.ty ts) : ∃ x : GItem, ts = x.cs .n /\ x.fit := by
 have h := Z7w h
 obtain ⟨_, _, rfl, h0, h⟩ := Z7x h
 obtain ⟨_, _, rfl, h1, h⟩ := Z7x h
 obtain ⟨_, _, rfl, h2, h⟩ := Z7x h
 obtain ⟨_, _, rfl, h3, h⟩ := Z7x h
 obtain ⟨_, _, rfl, h4, h⟩ := Z7x h
 obtain rfl := Z7y h
 obtain ⟨x0, rfl⟩ := Z7u h0
 obtain ⟨x1, rfl⟩ := Z7u h1
 obtain ⟨x2, rfl⟩ := Z7u h2
 obtain ⟨x3, rfl⟩ := Z7u h3
 obtain ⟨x4, rfl, f4⟩ := GSketch.of h4
 exact ⟨⟨x0, x1, x2, x3, x4⟩, rfl, f4⟩
theorem GItem.ofL {ts : List T} (h : HasTy (.l GItem.ty) ts) : ∃ l : List GItem, ts = [GItem.ls .n l] /\ fits GItem.fit l := Za0 (el := GItem.el .n) h fun cs hc => by
 obtain ⟨x, rfl, hx⟩ := GItem.of hc
 exact ⟨x, rfl, hx⟩
structure GEntry where
 Key : Int
 Window : Int
 Ids : List GSpan
 Sketch : GSketch
 deriving DecidableEq, Inhabited
def GEntry.cs (o : Ob) (x : GEntry) : List T := [iT x.Key, iT x.Window, GSpan.ls o x.Ids, iT x.Sketch.Count, iT x.Sketch.Sum, iT x.Sketch.Min, iT x.Sketch.Max, ints o x.Sketch.Hist, ints o x.Sketch.Regs, GInt.lss o x.Sketch.Rows]
def GEntry.el (o : Ob) (x : GEntry) : T := .a (x.cs o)
abbrev GEntry.ls (o : Ob) (l : List GEntry) : T := .l o 10 (l.map (GEntry.el o))
def GEntry.bulk (x : GEntry) : Nat := x.Ids.length + x.Sketch.bulk
def GEntry.fit (x : GEntry) : Prop := fits GSpan.fit x.Ids /\ x.Sketch.fit
abbrev GEntry.ty : Ty := .st [.i .i64, .i .i64, .l (GSpan.ty), GSketch.ty]
theorem GEntry.fz (o : Ob) (x : GEntry) : fzs (x.cs o) = x.cs .n := by simp only [GEntry.cs, fzs, T.fz, Z6u, GSpan.fze, Z6s, Z6q, Z6t]
theorem GEntry.fze (o : Ob) : (fun x => ((GEntry.el o) x).fz) = GEntry.el .n := by funext x; simp only [GEntry.el, T.fz, GEntry.fz]
theorem GEntry.of {ts : List T} (h : HasTy GEntry.ty ts) : ∃ x : GEntry, ts = x.cs .n /\ x.fit := by
 have h := Z7w h
 obtain ⟨_, _, rfl, h0, h⟩ := Z7x h
 obtain ⟨_, _, rfl, h1, h⟩ := Z7x h
 obtain ⟨_, _, rfl, h2, h⟩ := Z7x h
 obtain ⟨_, _, rfl, h3, h⟩ := Z7x h
 obtain rfl := Z7y h
 obtain ⟨x0, rfl⟩ := Z7u h0
 obtain ⟨x1, rfl⟩ := Z7u h1
 obtain ⟨x2, rfl, f2⟩ := GSpan.ofL h2
 obtain ⟨x3, rfl, f3⟩ := GSketch.of h3
 exact ⟨⟨x0, x1, x2, x3⟩, rfl, ⟨f2, f3⟩⟩
theorem GEntry.ofL {ts : List T} (h : HasTy (.l GEntry.ty) ts) : ∃ l : List GEntry, ts = [GEntry.ls .n l] /\ fits GEntry.fit l := Za0 (el := GEntry.el .n) h fun cs hc => by
 obtain ⟨x, rfl, hx⟩ := GEntry.of hc
 exact ⟨x, rfl, hx⟩
structure GFrame where
 Kind : Int
 Agent : Int
 Epoch : Int
 Granted : Int
 Taken : List GSpan
 Item : GItem
 deriving DecidableEq, Inhabited
def GFrame.cs (o : Ob) (x : GFrame) : List T := [iT x.Kind, iT x.Agent, iT x.Epoch, iT x.Granted, GSpan.ls o x.Taken, iT x.Item.Seq, iT x.Item.Class, iT x.Item.Key, iT x.Item.Window, iT x.Item.Sketch.Count, iT x.Item.Sketch.Sum, iT x.Item.Sketch.Min, iT x.Item.Sketch.Max, ints o x.Item.Sketch.Hist, ints o x.Item.Sketch.Regs, GInt.lss o x.Item.Sketch.Rows]
def GFrame.el (o : Ob) (x : GFrame) : T := .a (x.cs o)
abbrev GFrame.ls (o : Ob) (l : List GFrame) : T := .l o 16 (l.map (GFrame.el o))
def GFrame.bulk (x : GFrame) : Nat := x.Taken.length + x.Item.bulk
def GFrame.fit (x : GFrame) : Prop := fits GSpan.fit x.Taken /\ x.Item.fit
abbrev GFrame.ty : Ty := .st [.i .i64, .i .i64, .i .i64, .i .i64, .l (GSpan.ty), GItem.ty]
theorem GFrame.fz (o : Ob) (x : GFrame) : fzs (x.cs o) = x.cs .n := by simp only [GFrame.cs, fzs, T.fz, Z6u, GSpan.fze, Z6s, Z6q, Z6t]
theorem GFrame.fze (o : Ob) : (fun x => ((GFrame.el o) x).fz) = GFrame.el .n := by funext x; simp only [GFrame.el, T.fz, GFrame.fz]
theorem GFrame.of {ts : List T} (h : HasTy GFrame.ty ts) : ∃ x : GFrame, ts = x.cs .n /\ x.fit := by
 have h := Z7w h
 obtain ⟨_, _, rfl, h0, h⟩ := Z7x h
 obtain ⟨_, _, rfl, h1, h⟩ := Z7x h
 obtain ⟨_, _, rfl, h2, h⟩ := Z7x h
 obtain ⟨_, _, rfl, h3, h⟩ := Z7x h
 obtain ⟨_, _, rfl, h4, h⟩ := Z7x h
 obtain ⟨_, _, rfl, h5, h⟩ := Z7x h
 obtain rfl := Z7y h
 obtain ⟨x0, rfl⟩ := Z7u h0
 obtain ⟨x1, rfl⟩ := Z7u h1
 obtain ⟨x2, rfl⟩ := Z7u h2
 obtain ⟨x3, rfl⟩ := Z7u h3
 obtain ⟨x4, rfl, f4⟩ := GSpan.ofL h4
 obtain ⟨x5, rfl, f5⟩ := GItem.of h5
 exact ⟨⟨x0, x1, x2, x3, x4, x5⟩, rfl, ⟨f4, f5⟩⟩
theorem GFrame.ofL {ts : List T} (h : HasTy (.l GFrame.ty) ts) : ∃ l : List GFrame, ts = [GFrame.ls .n l] /\ fits GFrame.fit l := Za0 (el := GFrame.el .n) h fun cs hc => by
 obtain ⟨x, rfl, hx⟩ := GFrame.of hc
 exact ⟨x, rfl, hx⟩
structure GAgent where
 Id : Int
 Epoch : Int
 Live : Bool
 Granted : Int
 Sealed : List GItem
 Taken : List GSpan
 Next : Int
 deriving DecidableEq, Inhabited
def GAgent.cs (o : Ob) (x : GAgent) : List T := [iT x.Id, iT x.Epoch, .b x.Live, iT x.Granted, GItem.ls o x.Sealed, GSpan.ls o x.Taken, iT x.Next]
def GAgent.el (o : Ob) (x : GAgent) : T := .a (x.cs o)
abbrev GAgent.ls (o : Ob) (l : List GAgent) : T := .l o 7 (l.map (GAgent.el o))
def GAgent.bulk (x : GAgent) : Nat := bulks GItem.bulk x.Sealed + x.Taken.length
def GAgent.fit (x : GAgent) : Prop := fits GItem.fit x.Sealed /\ fits GSpan.fit x.Taken
abbrev GAgent.ty : Ty := .st [.i .i64, .i .i64, .b, .i .i64, .l (GItem.ty), .l (GSpan.ty), .i .i64]
theorem GAgent.fz (o : Ob) (x : GAgent) : fzs (x.cs o) = x.cs .n := by simp only [GAgent.cs, fzs, T.fz, Z6u, GItem.fze, GSpan.fze, Z6s, Z6q, Z6t]
theorem GAgent.fze (o : Ob) : (fun x => ((GAgent.el o) x).fz) = GAgent.el .n := by funext x; simp only [GAgent.el, T.fz, GAgent.fz]
theorem GAgent.of {ts : List T} (h : HasTy GAgent.ty ts) : ∃ x : GAgent, ts = x.cs .n /\ x.fit := by
 have h := Z7w h
 obtain ⟨_, _, rfl, h0, h⟩ := Z7x h
 obtain ⟨_, _, rfl, h1, h⟩ := Z7x h
 obtain ⟨_, _, rfl, h2, h⟩ := Z7x h
 obtain ⟨_, _, rfl, h3, h⟩ := Z7x h
 obtain ⟨_, _, rfl, h4, h⟩ := Z7x h
 obtain ⟨_, _, rfl, h5, h⟩ := Z7x h
 obtain ⟨_, _, rfl, h6, h⟩ := Z7x h
 obtain rfl := Z7y h
 obtain ⟨x0, rfl⟩ := Z7u h0
 obtain ⟨x1, rfl⟩ := Z7u h1
 obtain ⟨x2, rfl⟩ := Z7t h2
 obtain ⟨x3, rfl⟩ := Z7u h3
 obtain ⟨x4, rfl, f4⟩ := GItem.ofL h4
 obtain ⟨x5, rfl, f5⟩ := GSpan.ofL h5
 obtain ⟨x6, rfl⟩ := Z7u h6
 exact ⟨⟨x0, x1, x2, x3, x4, x5, x6⟩, rfl, ⟨f4, f5⟩⟩
theorem GAgent.ofL {ts : List T} (h : HasTy (.l GAgent.ty) ts) : ∃ l : List GAgent, ts = [GAgent.ls .n l] /\ fits GAgent.fit l := Za0 (el := GAgent.el .n) h fun cs hc => by
 obtain ⟨x, rfl, hx⟩ := GAgent.of hc
 exact ⟨x, rfl, hx⟩
structure GSeat where
 Epoch : Int
 Granted : Int
 Taken : List GSpan
 Merged : Int
 Last : Int
 deriving DecidableEq, Inhabited
def GSeat.cs (o : Ob) (x : GSeat) : List T := [iT x.Epoch, iT x.Granted, GSpan.ls o x.Taken, iT x.Merged, iT x.Last]
def GSeat.el (o : Ob) (x : GSeat) : T := .a (x.cs o)
abbrev GSeat.ls (o : Ob) (l : List GSeat) : T := .l o 5 (l.map (GSeat.el o))
def GSeat.bulk (x : GSeat) : Nat := x.Taken.length
def GSeat.fit (x : GSeat) : Prop := fits GSpan.fit x.Taken
abbrev GSeat.ty : Ty := .st [.i .i64, .i .i64, .l (GSpan.ty), .i .i64, .i .i64]
theorem GSeat.fz (o : Ob) (x : GSeat) : fzs (x.cs o) = x.cs .n := by simp only [GSeat.cs, fzs, T.fz, Z6u, GSpan.fze, Z6s, Z6q, Z6t]
theorem GSeat.fze (o : Ob) : (fun x => ((GSeat.el o) x).fz) = GSeat.el .n := by funext x; simp only [GSeat.el, T.fz, GSeat.fz]
theorem GSeat.of {ts : List T} (h : HasTy GSeat.ty ts) : ∃ x : GSeat, ts = x.cs .n /\ x.fit := by
 have h := Z7w h
 obtain ⟨_, _, rfl, h0, h⟩ := Z7x h
 obtain ⟨_, _, rfl, h1, h⟩ := Z7x h
 obtain ⟨_, _, rfl, h2, h⟩ := Z7x h
 obtain ⟨_, _, rfl, h3, h⟩ := Z7x h
 obtain ⟨_, _, rfl, h4, h⟩ := Z7x h
 obtain rfl := Z7y h
 obtain ⟨x0, rfl⟩ := Z7u h0
 obtain ⟨x1, rfl⟩ := Z7u h1
 obtain ⟨x2, rfl, f2⟩ := GSpan.ofL h2
 obtain ⟨x3, rfl⟩ := Z7u h3
 obtain ⟨x4, rfl⟩ := Z7u h4
 exact ⟨⟨x0, x1, x2, x3, x4⟩, rfl, f2⟩
theorem GSeat.ofL {ts : List T} (h : HasTy (.l GSeat.ty) ts) : ∃ l : List GSeat, ts = [GSeat.ls .n l] /\ fits GSeat.fit l := Za0 (el := GSeat.el .n) h fun cs hc => by
 obtain ⟨x, rfl, hx⟩ := GSeat.of hc
 exact ⟨x, rfl, hx⟩
structure GRow where
 Lst : List GEntry
 deriving DecidableEq, Inhabited
def GRow.cs (o : Ob) (x : GRow) : List T := [GEntry.ls o x.Lst]
def GRow.el (o : Ob) (x : GRow) : T := .a (x.cs o)
abbrev GRow.ls (o : Ob) (l : List GRow) : T := .l o 1 (l.map (GRow.el o))
abbrev GRow.lss (o : Ob) (l : List (List GRow)) : T := .l o 1 (l.map (GRow.ls o))
def GRow.bulk (x : GRow) : Nat := bulks GEntry.bulk x.Lst
def GRow.fit (x : GRow) : Prop := fits GEntry.fit x.Lst
abbrev GRow.ty : Ty := .st [.l (GEntry.ty)]
theorem GRow.fz (o : Ob) (x : GRow) : fzs (x.cs o) = x.cs .n := by simp only [GRow.cs, fzs, T.fz, Z6u, GEntry.fze, Z6s, Z6q, Z6t]
theorem GRow.fze (o : Ob) : (fun x => ((GRow.el o) x).fz) = GRow.el .n := by funext x; simp only [GRow.el, T.fz, GRow.fz]
theorem GRow.fzl (o : Ob) : (fun l => ((GRow.ls o) l).fz) = GRow.ls .n := by funext x; simp only [GRow.ls, T.fz, Z6u, GRow.fze]
theorem GRow.of {ts : List T} (h : HasTy GRow.ty ts) : ∃ x : GRow, ts = x.cs .n /\ x.fit := by
 have h := Z7w h
 obtain ⟨_, _, rfl, h0, h⟩ := Z7x h
 obtain rfl := Z7y h
 obtain ⟨x0, rfl, f0⟩ := GEntry.ofL h0
 exact ⟨⟨x0⟩, rfl, f0⟩
theorem GRow.ofL {ts : List T} (h : HasTy (.l GRow.ty) ts) : ∃ l : List GRow, ts = [GRow.ls .n l] /\ fits GRow.fit l := Za0 (el := GRow.el .n) h fun cs hc => by
 obtain ⟨x, rfl, hx⟩ := GRow.of hc
 exact ⟨x, rfl, hx⟩
theorem GRow.ofLL {ts : List T} (h : HasTy (.l (.l GRow.ty)) ts) : ∃ l : List (List GRow), ts = [GRow.lss .n l] /\ fits (fits GRow.fit) l := Za0 (el := GRow.ls .n) h fun cs hc => by
 obtain ⟨x, rfl, hx⟩ := GRow.ofL hc
 exact ⟨x, rfl, hx⟩
structure GTurn where
 At : Int
 Fresh : Bool
 Left : List Int
 deriving DecidableEq, Inhabited
def GTurn.cs (o : Ob) (x : GTurn) : List T := [iT x.At, .b x.Fresh, ints o x.Left]
def GTurn.el (o : Ob) (x : GTurn) : T := .a (x.cs o)
abbrev GTurn.ls (o : Ob) (l : List GTurn) : T := .l o 3 (l.map (GTurn.el o))
def GTurn.bulk (x : GTurn) : Nat := x.Left.length
def GTurn.fit (x : GTurn) : Prop := x.Left.length <= maxLen
abbrev GTurn.ty : Ty := .st [.i .i64, .b, .l (.i .i64)]
theorem GTurn.fz (o : Ob) (x : GTurn) : fzs (x.cs o) = x.cs .n := by simp only [GTurn.cs, fzs, T.fz, Z6u, Z6s, Z6q, Z6t]
theorem GTurn.fze (o : Ob) : (fun x => ((GTurn.el o) x).fz) = GTurn.el .n := by funext x; simp only [GTurn.el, T.fz, GTurn.fz]
theorem GTurn.of {ts : List T} (h : HasTy GTurn.ty ts) : ∃ x : GTurn, ts = x.cs .n /\ x.fit := by
 have h := Z7w h
 obtain ⟨_, _, rfl, h0, h⟩ := Z7x h
 obtain ⟨_, _, rfl, h1, h⟩ := Z7x h
 obtain ⟨_, _, rfl, h2, h⟩ := Z7x h
 obtain rfl := Z7y h
 obtain ⟨x0, rfl⟩ := Z7u h0
 obtain ⟨x1, rfl⟩ := Z7t h1
 obtain ⟨x2, rfl, f2⟩ := Z8q h2
 exact ⟨⟨x0, x1, x2⟩, rfl, f2⟩
theorem GTurn.ofL {ts : List T} (h : HasTy (.l GTurn.ty) ts) : ∃ l : List GTurn, ts = [GTurn.ls .n l] /\ fits GTurn.fit l := Za0 (el := GTurn.el .n) h fun cs hc => by
 obtain ⟨x, rfl, hx⟩ := GTurn.of hc
 exact ⟨x, rfl, hx⟩
structure GConf where
 Per : Int
 Quantum : Int
 Quota : Int
 Weights : List Int
 Join : Int
 Long : Int
 Grace : Int
 Still : Int
 deriving DecidableEq, Inhabited
def GConf.cs (o : Ob) (x : GConf) : List T := [iT x.Per, iT x.Quantum, iT x.Quota, ints o x.Weights, iT x.Join, iT x.Long, iT x.Grace, iT x.Still]
def GConf.el (o : Ob) (x : GConf) : T := .a (x.cs o)
abbrev GConf.ls (o : Ob) (l : List GConf) : T := .l o 8 (l.map (GConf.el o))
def GConf.bulk (x : GConf) : Nat := x.Weights.length
def GConf.fit (x : GConf) : Prop := x.Weights.length <= maxLen
abbrev GConf.ty : Ty := .st [.i .i64, .i .i64, .i .i64, .l (.i .i64), .i .i64, .i .i64, .i .i64, .i .i64]
theorem GConf.fz (o : Ob) (x : GConf) : fzs (x.cs o) = x.cs .n := by simp only [GConf.cs, fzs, T.fz, Z6u, Z6s, Z6q, Z6t]
theorem GConf.fze (o : Ob) : (fun x => ((GConf.el o) x).fz) = GConf.el .n := by funext x; simp only [GConf.el, T.fz, GConf.fz]
theorem GConf.of {ts : List T} (h : HasTy GConf.ty ts) : ∃ x : GConf, ts = x.cs .n /\ x.fit := by
 have h := Z7w h
 obtain ⟨_, _, rfl, h0, h⟩ := Z7x h
 obtain ⟨_, _, rfl, h1, h⟩ := Z7x h
 obtain ⟨_, _, rfl, h2, h⟩ := Z7x h
 obtain ⟨_, _, rfl, h3, h⟩ := Z7x h
 obtain ⟨_, _, rfl, h4, h⟩ := Z7x h
 obtain ⟨_, _, rfl, h5, h⟩ := Z7x h
 obtain ⟨_, _, rfl, h6, h⟩ := Z7x h
 obtain ⟨_, _, rfl, h7, h⟩ := Z7x h
 obtain rfl := Z7y h
 obtain ⟨x0, rfl⟩ := Z7u h0
 obtain ⟨x1, rfl⟩ := Z7u h1
 obtain ⟨x2, rfl⟩ := Z7u h2
 obtain ⟨x3, rfl, f3⟩ := Z8q h3
 obtain ⟨x4, rfl⟩ := Z7u h4
 obtain ⟨x5, rfl⟩ := Z7u h5
 obtain ⟨x6, rfl⟩ := Z7u h6
 obtain ⟨x7, rfl⟩ := Z7u h7
 exact ⟨⟨x0, x1, x2, x3, x4, x5, x6, x7⟩, rfl, f3⟩
theorem GConf.ofL {ts : List T} (h : HasTy (.l GConf.ty) ts) : ∃ l : List GConf, ts = [GConf.ls .n l] /\ fits GConf.fit l := Za0 (el := GConf.el .n) h fun cs hc => by
 obtain ⟨x, rfl, hx⟩ := GConf.of hc
 exact ⟨x, rfl, hx⟩
structure GOut where
 Gen : Int
 Entry : GEntry
 deriving DecidableEq, Inhabited
def GOut.cs (o : Ob) (x : GOut) : List T := [iT x.Gen, iT x.Entry.Key, iT x.Entry.Window, GSpan.ls o x.Entry.Ids, iT x.Entry.Sketch.Count, iT x.Entry.Sketch.Sum, iT x.Entry.Sketch.Min, iT x.Entry.Sketch.Max, ints o x.Entry.Sketch.Hist, ints o x.Entry.Sketch.Regs, GInt.lss o x.Entry.Sketch.Rows]
def GOut.el (o : Ob) (x : GOut) : T := .a (x.cs o)
abbrev GOut.ls (o : Ob) (l : List GOut) : T := .l o 11 (l.map (GOut.el o))
def GOut.bulk (x : GOut) : Nat := x.Entry.bulk
def GOut.fit (x : GOut) : Prop := x.Entry.fit
abbrev GOut.ty : Ty := .st [.i .i64, GEntry.ty]
theorem GOut.fz (o : Ob) (x : GOut) : fzs (x.cs o) = x.cs .n := by simp only [GOut.cs, fzs, T.fz, Z6u, GSpan.fze, Z6s, Z6q, Z6t]
theorem GOut.fze (o : Ob) : (fun x => ((GOut.el o) x).fz) = GOut.el .n := by funext x; simp only [GOut.el, T.fz, GOut.fz]
theorem GOut.of {ts : List T} (h : HasTy GOut.ty ts) : ∃ x : GOut, ts = x.cs .n /\ x.fit := by
 have h := Z7w h
 obtain ⟨_, _, rfl, h0, h⟩ := Z7x h
 obtain ⟨_, _, rfl, h1, h⟩ := Z7x h
 obtain rfl := Z7y h
 obtain ⟨x0, rfl⟩ := Z7u h0
 obtain ⟨x1, rfl, f1⟩ := GEntry.of h1
 exact ⟨⟨x0, x1⟩, rfl, f1⟩
theorem GOut.ofL {ts : List T} (h : HasTy (.l GOut.ty) ts) : ∃ l : List GOut, ts = [GOut.ls .n l] /\ fits GOut.fit l := Za0 (el := GOut.el .n) h fun cs hc => by
 obtain ⟨x, rfl, hx⟩ := GOut.of hc
 exact ⟨x, rfl, hx⟩
structure GHouse where
 Conf : GConf
 Clock : Int
 Closed : Bool
 Seats : List GSeat
 Rows : List (List GRow)
 Turns : List GTurn
 Since : Int
 Root : List GEntry
 Outs : List GOut
 deriving DecidableEq, Inhabited
def GHouse.cs (o : Ob) (x : GHouse) : List T := [iT x.Conf.Per, iT x.Conf.Quantum, iT x.Conf.Quota, ints o x.Conf.Weights, iT x.Conf.Join, iT x.Conf.Long, iT x.Conf.Grace, iT x.Conf.Still, iT x.Clock, .b x.Closed, GSeat.ls o x.Seats, GRow.lss o x.Rows, GTurn.ls o x.Turns, iT x.Since, GEntry.ls o x.Root, GOut.ls o x.Outs]
def GHouse.el (o : Ob) (x : GHouse) : T := .a (x.cs o)
abbrev GHouse.ls (o : Ob) (l : List GHouse) : T := .l o 16 (l.map (GHouse.el o))
def GHouse.bulk (x : GHouse) : Nat := x.Conf.bulk + bulks GSeat.bulk x.Seats + bulks (bulks GRow.bulk) x.Rows + bulks GTurn.bulk x.Turns + bulks GEntry.bulk x.Root + bulks GOut.bulk x.Outs
def GHouse.fit (x : GHouse) : Prop := x.Conf.fit /\ fits GSeat.fit x.Seats /\ fits (fits GRow.fit) x.Rows /\ fits GTurn.fit x.Turns /\ fits GEntry.fit x.Root /\ fits GOut.fit x.Outs
abbrev GHouse.ty : Ty := .st [GConf.ty, .i .i64, .b, .l (GSeat.ty), .l (.l (GRow.ty)), .l (GTurn.ty), .i .i64, .l (GEntry.ty), .l (GOut.ty)]
theorem GHouse.fz (o : Ob) (x : GHouse) : fzs (x.cs o) = x.cs .n := by simp only [GHouse.cs, fzs, T.fz, Z6u, GEntry.fze, GOut.fze, GRow.fze, GSeat.fze, GTurn.fze, Z6s, Z6q, Z6t]
theorem GHouse.fze (o : Ob) : (fun x => ((GHouse.el o) x).fz) = GHouse.el .n := by funext x; simp only [GHouse.el, T.fz, GHouse.fz]
theorem GHouse.of {ts : List T} (h : HasTy GHouse.ty ts) : ∃ x : GHouse, ts = x.cs .n /\ x.fit := by
 have h := Z7w h
 obtain ⟨_, _, rfl, h0, h⟩ := Z7x h
 obtain ⟨_, _, rfl, h1, h⟩ := Z7x h
 obtain ⟨_, _, rfl, h2, h⟩ := Z7x h
 obtain ⟨_, _, rfl, h3, h⟩ := Z7x h
 obtain ⟨_, _, rfl, h4, h⟩ := Z7x h
 obtain ⟨_, _, rfl, h5, h⟩ := Z7x h
 obtain ⟨_, _, rfl, h6, h⟩ := Z7x h
 obtain ⟨_, _, rfl, h7, h⟩ := Z7x h
 obtain ⟨_, _, rfl, h8, h⟩ := Z7x h
 obtain rfl := Z7y h
 obtain ⟨x0, rfl, f0⟩ := GConf.of h0
 obtain ⟨x1, rfl⟩ := Z7u h1
 obtain ⟨x2, rfl⟩ := Z7t h2
 obtain ⟨x3, rfl, f3⟩ := GSeat.ofL h3
 obtain ⟨x4, rfl, f4⟩ := GRow.ofLL h4
 obtain ⟨x5, rfl, f5⟩ := GTurn.ofL h5
 obtain ⟨x6, rfl⟩ := Z7u h6
 obtain ⟨x7, rfl, f7⟩ := GEntry.ofL h7
 obtain ⟨x8, rfl, f8⟩ := GOut.ofL h8
 exact ⟨⟨x0, x1, x2, x3, x4, x5, x6, x7, x8⟩, rfl, ⟨f0, f3, f4, f5, f7, f8⟩⟩
theorem GHouse.ofL {ts : List T} (h : HasTy (.l GHouse.ty) ts) : ∃ l : List GHouse, ts = [GHouse.ls .n l] /\ fits GHouse.fit l := Za0 (el := GHouse.el .n) h fun cs hc => by
 obtain ⟨x, rfl, hx⟩ := GHouse.of hc
 exact ⟨x, rfl, hx⟩
structure GPack where
 To : Int
 Bytes : List UInt8
 Spoilt : Bool
 deriving DecidableEq, Inhabited
def GPack.cs (o : Ob) (x : GPack) : List T := [iT x.To, bytes o x.Bytes, .b x.Spoilt]
def GPack.el (o : Ob) (x : GPack) : T := .a (x.cs o)
abbrev GPack.ls (o : Ob) (l : List GPack) : T := .l o 3 (l.map (GPack.el o))
def GPack.bulk (x : GPack) : Nat := x.Bytes.length
def GPack.fit (x : GPack) : Prop := x.Bytes.length <= maxLen
abbrev GPack.ty : Ty := .st [.i .i64, .l (.i .u8), .b]
theorem GPack.fz (o : Ob) (x : GPack) : fzs (x.cs o) = x.cs .n := by simp only [GPack.cs, fzs, T.fz, Z6u, Z6s, Z6q, Z6t]
theorem GPack.fze (o : Ob) : (fun x => ((GPack.el o) x).fz) = GPack.el .n := by funext x; simp only [GPack.el, T.fz, GPack.fz]
theorem GPack.of {ts : List T} (h : HasTy GPack.ty ts) : ∃ x : GPack, ts = x.cs .n /\ x.fit := by
 have h := Z7w h
 obtain ⟨_, _, rfl, h0, h⟩ := Z7x h
 obtain ⟨_, _, rfl, h1, h⟩ := Z7x h
 obtain ⟨_, _, rfl, h2, h⟩ := Z7x h
 obtain rfl := Z7y h
 obtain ⟨x0, rfl⟩ := Z7u h0
 obtain ⟨x1, rfl, f1⟩ := Z22 h1
 obtain ⟨x2, rfl⟩ := Z7t h2
 exact ⟨⟨x0, x1, x2⟩, rfl, f1⟩
theorem GPack.ofL {ts : List T} (h : HasTy (.l GPack.ty) ts) : ∃ l : List GPack, ts = [GPack.ls .n l] /\ fits GPack.fit l := Za0 (el := GPack.el .n) h fun cs hc => by
 obtain ⟨x, rfl, hx⟩ := GPack.of hc
 exact ⟨x, rfl, hx⟩
structure GWorld where
 Agents : List GAgent
 House : GHouse
 Net : List GPack
 deriving DecidableEq, Inhabited
def GWorld.cs (o : Ob) (x : GWorld) : List T := [GAgent.ls o x.Agents, iT x.House.Conf.Per, iT x.House.Conf.Quantum, iT x.House.Conf.Quota, ints o x.House.Conf.Weights, iT x.House.Conf.Join, iT x.House.Conf.Long, iT x.House.Conf.Grace, iT x.House.Conf.Still, iT x.House.Clock, .b x.House.Closed, GSeat.ls o x.House.Seats, GRow.lss o x.House.Rows, GTurn.ls o x.House.Turns, iT x.House.Since, GEntry.ls o x.House.Root, GOut.ls o x.House.Outs, GPack.ls o x.Net]
def GWorld.el (o : Ob) (x : GWorld) : T := .a (x.cs o)
abbrev GWorld.ls (o : Ob) (l : List GWorld) : T := .l o 18 (l.map (GWorld.el o))
def GWorld.bulk (x : GWorld) : Nat := bulks GAgent.bulk x.Agents + x.House.bulk + bulks GPack.bulk x.Net
def GWorld.fit (x : GWorld) : Prop := fits GAgent.fit x.Agents /\ x.House.fit /\ fits GPack.fit x.Net
abbrev GWorld.ty : Ty := .st [.l (GAgent.ty), GHouse.ty, .l (GPack.ty)]
theorem GWorld.fz (o : Ob) (x : GWorld) : fzs (x.cs o) = x.cs .n := by simp only [GWorld.cs, fzs, T.fz, Z6u, GAgent.fze, GEntry.fze, GOut.fze, GPack.fze, GRow.fze, GSeat.fze, GTurn.fze, Z6s, Z6q, Z6t]
theorem GWorld.fze (o : Ob) : (fun x => ((GWorld.el o) x).fz) = GWorld.el .n := by funext x; simp only [GWorld.el, T.fz, GWorld.fz]
theorem GWorld.of {ts : List T} (h : HasTy GWorld.ty ts) : ∃ x : GWorld, ts = x.cs .n /\ x.fit := by
 have h := Z7w h
 obtain ⟨_, _, rfl, h0, h⟩ := Z7x h
 obtain ⟨_, _, rfl, h1, h⟩ := Z7x h
 obtain ⟨_, _, rfl, h2, h⟩ := Z7x h
 obtain rfl := Z7y h
 obtain ⟨x0, rfl, f0⟩ := GAgent.ofL h0
 obtain ⟨x1, rfl, f1⟩ := GHouse.of h1
 obtain ⟨x2, rfl, f2⟩ := GPack.ofL h2
 exact ⟨⟨x0, x1, x2⟩, rfl, ⟨f0, f1, f2⟩⟩
theorem GWorld.ofL {ts : List T} (h : HasTy (.l GWorld.ty) ts) : ∃ l : List GWorld, ts = [GWorld.ls .n l] /\ fits GWorld.fit l := Za0 (el := GWorld.el .n) h fun cs hc => by
 obtain ⟨x, rfl, hx⟩ := GWorld.of hc
 exact ⟨x, rfl, hx⟩
structure GDeed where
 Kind : Int
 A : Int
 B : Int
 C : Int
 D : Int
 Lst : List Int
 deriving DecidableEq, Inhabited
def GDeed.cs (o : Ob) (x : GDeed) : List T := [iT x.Kind, iT x.A, iT x.B, iT x.C, iT x.D, ints o x.Lst]
def GDeed.el (o : Ob) (x : GDeed) : T := .a (x.cs o)
abbrev GDeed.ls (o : Ob) (l : List GDeed) : T := .l o 6 (l.map (GDeed.el o))
def GDeed.bulk (x : GDeed) : Nat := x.Lst.length
def GDeed.fit (x : GDeed) : Prop := x.Lst.length <= maxLen
abbrev GDeed.ty : Ty := .st [.i .i64, .i .i64, .i .i64, .i .i64, .i .i64, .l (.i .i64)]
theorem GDeed.fz (o : Ob) (x : GDeed) : fzs (x.cs o) = x.cs .n := by simp only [GDeed.cs, fzs, T.fz, Z6u, Z6s, Z6q, Z6t]
theorem GDeed.fze (o : Ob) : (fun x => ((GDeed.el o) x).fz) = GDeed.el .n := by funext x; simp only [GDeed.el, T.fz, GDeed.fz]
theorem GDeed.of {ts : List T} (h : HasTy GDeed.ty ts) : ∃ x : GDeed, ts = x.cs .n /\ x.fit := by
 have h := Z7w h
 obtain ⟨_, _, rfl, h0, h⟩ := Z7x h
 obtain ⟨_, _, rfl, h1, h⟩ := Z7x h
 obtain ⟨_, _, rfl, h2, h⟩ := Z7x h
 obtain ⟨_, _, rfl, h3, h⟩ := Z7x h
 obtain ⟨_, _, rfl, h4, h⟩ := Z7x h
 obtain ⟨_, _, rfl, h5, h⟩ := Z7x h
 obtain rfl := Z7y h
 obtain ⟨x0, rfl⟩ := Z7u h0
 obtain ⟨x1, rfl⟩ := Z7u h1
 obtain ⟨x2, rfl⟩ := Z7u h2
 obtain ⟨x3, rfl⟩ := Z7u h3
 obtain ⟨x4, rfl⟩ := Z7u h4
 obtain ⟨x5, rfl, f5⟩ := Z8q h5
 exact ⟨⟨x0, x1, x2, x3, x4, x5⟩, rfl, f5⟩
theorem GDeed.ofL {ts : List T} (h : HasTy (.l GDeed.ty) ts) : ∃ l : List GDeed, ts = [GDeed.ls .n l] /\ fits GDeed.fit l := Za0 (el := GDeed.el .n) h fun cs hc => by
 obtain ⟨x, rfl, hx⟩ := GDeed.of hc
 exact ⟨x, rfl, hx⟩
end Go.Wr
namespace Go.Wr
theorem w64 {n : Int} (h : -9223372036854775808 <= n /\ n <= 9223372036854775807) : IntKind.i64.wrap n = n := by rw [IntKind.wrap_i64]; omega
theorem w64s {i : Nat} (h : i < 9223372036854775807) : IntKind.i64.wrap (↑i + 1) = ((i + 1 : Nat) : Int) := by rw [w64 (by omega)]; omega
theorem Zk1 {α β : Type} (l : List α) (f : α -> β) : sub (l.map f) 0 (l.map f).length = l.map f := by simp [sub, Y73]
theorem Zk0 (l : List T) : sub l 0 l.length = l := by simp [sub]
theorem Zar {α : Type} {l : List α} {f : α -> T} {i : Nat} {x : α} (h : l[i]? = some x) : (l.map f)[((i : Nat) : Int).toNat]? = some (f x) := by simp [h]
def inB (x lo hi : Int) : Bool := decide (lo <= x) && decide (x <= hi)
def left (n : Int) (b : Nat) : Int := if n < b then -1 else n - b
def Rng (n : Int) : Prop := -1 <= n /\ n <= 1048576
theorem Z9r {n : Int} {b : Nat} (h : Rng n) : Rng (left n b) := by unfold Rng left at *; split <;> omega
theorem Z9p {n : Int} {b c : Nat} (hn : Rng n) (h : decide (left n b < 0) = true) (hc : b <= c) : left n c = -1 := by
 simp only [decide_eq_true_eq] at h
 unfold left at *
 unfold Rng at hn
 split at h
 ·rw [if_pos (by omega)]
 ·omega
theorem Z9q {n : Int} {b : Nat} (hn : Rng n) (h : decide (left n b < 0) = false) : left n b = n - b /\ (b : Int) <= n := by
 simp only [decide_eq_false_iff_not] at h
 unfold left at *
 split at h
 ·omega
 ·rename_i h1; rw [if_neg h1]; exact ⟨rfl, by omega⟩
theorem Zlx {α : Type} {l : List α} {f : α -> T} {n : Int} (hn : Rng n) (hl : l.length <= maxLen) : IntKind.i64.wrap (n - (l.map f).length) = n - l.length := by
 unfold Rng at hn
 rw [Y45, w64 (by unfold maxLen at hl; omega)]
def pre {α : Type} (f : α -> Nat) (l : List α) (i : Nat) : Nat := ((l.take i).map f).sum
theorem Zda {α : Type} (f : α -> Nat) (l : List α) : pre f l 0 = 0 := by simp [pre]
theorem Zd9 {α : Type} {f : α -> Nat} {l : List α} {i : Nat} {x : α} (h : l[i]? = some x) : pre f l (i + 1) = pre f l i + f x := by
 unfold pre
 rw [Y70, h]
 simp
theorem Zd7 {α : Type} {f : α -> Nat} {l : List α} {i : Nat} (h : l.length <= i) : l.length + pre f l i = bulks f l := by
 unfold pre bulks
 rw [Y73 h]
theorem Zd8 {α : Type} {f : α -> Nat} {l : List α} {i : Nat} : l.length + pre f l i <= bulks f l := by
 unfold pre bulks
 have : ∀ (l : List Nat) (i : Nat), (l.take i).sum <= l.sum := by
  intro l
  induction l with
  | nil => intro i; simp
  | cons a l ih => intro i; cases i with
   | zero => simp
   | succ i => have := ih i; simp; omega
 have := this (l.map f) i
 rw [List.map_take]; omega
theorem Z3n {α : Type} {a b : List α} {i : Nat} {x : α} (h : a.take i = b.take i) (hx : a[i]? = some x) (hy : b[i]? = some x) : a.take (i + 1) = b.take (i + 1) := by
 rw [Y70, Y70, h, hx, hy]
theorem Zbn {α : Type} {a b : List α} {i : Nat} {x y : α} (hx : a[i]? = some x) (hy : b[i]? = some y) (h : x ≠ y) : a ≠ b := by
 intro e; subst e; rw [hx] at hy; cases hy; exact h rfl
theorem Zbo {α β : Type} {a b : List α} {f g : α -> β} (h : (((a.map f).length : Int) != (b.map g).length) = true) : a ≠ b := by
 intro e; subst e; simp at h
theorem Z3m {α β : Type} {a b : List α} {f g : α -> β} (h : (((a.map f).length : Int) != (b.map g).length) = false) : a.length = b.length := by
 simp at h; omega
theorem Z3l {α : Type} {a b : List α} {i : Nat} (h : a.take i = b.take i) (hl : a.length = b.length) (hi : a.length <= i) : a = b := by
 rwa [Y73 hi, Y73 (by omega)] at h
theorem fzl0 : (∀ sz es, T.lz (.l .y sz es) = .l .n sz (fzs es)) /\ (∀ sz es, T.lz (.l .n sz es) = .l .n sz es) /\ (∀ k n, T.lz (.i k n) = .i k n) /\ (∀ x, T.lz (.b x) = .b x) /\ (∀ x, T.lz (.s x) = .s x) /\ (∀ g env, T.lz (.f g env) = .f g env) /\ (∀ k n, T.fz (.i k n) = .i k n) /\ (∀ x, T.fz (.b x) = .b x) /\ (∀ x, T.fz (.s x) = .s x) /\ (∀ cs, T.fz (.a cs) = .a (fzs cs)) /\ (∀ o sz es, T.fz (.l o sz es) = .l .n sz (fzs es)) /\ (∀ g env, T.fz (.f g env) = .f g env) /\ (∀ t, T.fz (.p t) = .p t) /\ (T.fz .u = .u) /\ (fzs [] = []) /\ (∀ t ts, fzs (t :: ts) = t.fz :: fzs ts) /\ (∀ o, (fun x => (GSketch.el o x).fz) = GSketch.el .n) /\ (∀ o x, fzs (GSketch.cs o x) = GSketch.cs .n x) /\ (∀ o, (fun x => (GSpan.el o x).fz) = GSpan.el .n) /\ (∀ o x, fzs (GSpan.cs o x) = GSpan.cs .n x) /\ (∀ o, (fun x => (GItem.el o x).fz) = GItem.el .n) /\ (∀ o x, fzs (GItem.cs o x) = GItem.cs .n x) /\ (∀ o, (fun x => (GEntry.el o x).fz) = GEntry.el .n) /\ (∀ o x, fzs (GEntry.cs o x) = GEntry.cs .n x) /\ (∀ o, (fun x => (GFrame.el o x).fz) = GFrame.el .n) /\ (∀ o x, fzs (GFrame.cs o x) = GFrame.cs .n x) /\ (∀ o, (fun x => (GAgent.el o x).fz) = GAgent.el .n) /\ (∀ o x, fzs (GAgent.cs o x) = GAgent.cs .n x) /\ (∀ o, (fun x => (GSeat.el o x).fz) = GSeat.el .n) /\ (∀ o x, fzs (GSeat.cs o x) = GSeat.cs .n x) /\ (∀ o, (fun x => (GRow.el o x).fz) = GRow.el .n) /\ (∀ o x, fzs (GRow.cs o x) = GRow.cs .n x) /\ (∀ o, (fun x => (GTurn.el o x).fz) = GTurn.el .n) /\ (∀ o x, fzs (GTurn.cs o x) = GTurn.cs .n x) /\ (∀ o, (fun x => (GConf.el o x).fz) = GConf.el .n) /\ (∀ o x, fzs (GConf.cs o x) = GConf.cs .n x) /\ (∀ o, (fun x => (GOut.el o x).fz) = GOut.el .n) /\ (∀ o x, fzs (GOut.cs o x) = GOut.cs .n x) /\ (∀ o, (fun x => (GHouse.el o x).fz) = GHouse.el .n) /\ (∀ o x, fzs (GHouse.cs o x) = GHouse.cs .n x) /\ (∀ o, (fun x => (GPack.el o x).fz) = GPack.el .n) /\ (∀ o x, fzs (GPack.cs o x) = GPack.cs .n x) /\ (∀ o, (fun x => (GWorld.el o x).fz) = GWorld.el .n) /\ (∀ o x, fzs (GWorld.cs o x) = GWorld.cs .n x) /\ (∀ o, (fun x => (GDeed.el o x).fz) = GDeed.el .n) /\ (∀ o x, fzs (GDeed.cs o x) = GDeed.cs .n x) := ⟨fun _ _ => rfl, fun _ _ => rfl, fun _ _ => rfl, fun _ => rfl, fun _ => rfl, fun _ _ => rfl, fun _ _ => rfl, fun _ => rfl, fun _ => rfl, fun _ => rfl, fun _ _ _ => rfl, fun _ _ => rfl, fun _ => rfl, rfl, rfl, fun _ _ => rfl, GSketch.fze, GSketch.fz, GSpan.fze, GSpan.fz, GItem.fze, GItem.fz, GEntry.fze, GEntry.fz, GFrame.fze, GFrame.fz, GAgent.fze, GAgent.fz, GSeat.fze, GSeat.fz, GRow.fze, GRow.fz, GTurn.fze, GTurn.fz, GConf.fze, GConf.fz, GOut.fze, GOut.fz, GHouse.fze, GHouse.fz, GPack.fze, GPack.fz, GWorld.fze, GWorld.fz, GDeed.fze, GDeed.fz⟩
theorem fzl : (∀ {α : Type} (f : α -> T) (l : List α), fzs (l.map f) = l.map fun x => (f x).fz) /\ (∀ {α β : Type} (l : List α) (f : α -> β), sub (l.map f) 0 (l.map f).length = l.map f) /\ ((∀ sz es, T.lz (.l .y sz es) = .l .n sz (fzs es)) /\ (∀ sz es, T.lz (.l .n sz es) = .l .n sz es) /\ (∀ k n, T.lz (.i k n) = .i k n) /\ (∀ x, T.lz (.b x) = .b x) /\ (∀ x, T.lz (.s x) = .s x) /\ (∀ g env, T.lz (.f g env) = .f g env) /\ (∀ k n, T.fz (.i k n) = .i k n) /\ (∀ x, T.fz (.b x) = .b x) /\ (∀ x, T.fz (.s x) = .s x) /\ (∀ cs, T.fz (.a cs) = .a (fzs cs)) /\ (∀ o sz es, T.fz (.l o sz es) = .l .n sz (fzs es)) /\ (∀ g env, T.fz (.f g env) = .f g env) /\ (∀ t, T.fz (.p t) = .p t) /\ (T.fz .u = .u) /\ (fzs [] = []) /\ (∀ t ts, fzs (t :: ts) = t.fz :: fzs ts) /\ (∀ o, (fun x => (GSketch.el o x).fz) = GSketch.el .n) /\ (∀ o x, fzs (GSketch.cs o x) = GSketch.cs .n x) /\ (∀ o, (fun x => (GSpan.el o x).fz) = GSpan.el .n) /\ (∀ o x, fzs (GSpan.cs o x) = GSpan.cs .n x) /\ (∀ o, (fun x => (GItem.el o x).fz) = GItem.el .n) /\ (∀ o x, fzs (GItem.cs o x) = GItem.cs .n x) /\ (∀ o, (fun x => (GEntry.el o x).fz) = GEntry.el .n) /\ (∀ o x, fzs (GEntry.cs o x) = GEntry.cs .n x) /\ (∀ o, (fun x => (GFrame.el o x).fz) = GFrame.el .n) /\ (∀ o x, fzs (GFrame.cs o x) = GFrame.cs .n x) /\ (∀ o, (fun x => (GAgent.el o x).fz) = GAgent.el .n) /\ (∀ o x, fzs (GAgent.cs o x) = GAgent.cs .n x) /\ (∀ o, (fun x => (GSeat.el o x).fz) = GSeat.el .n) /\ (∀ o x, fzs (GSeat.cs o x) = GSeat.cs .n x) /\ (∀ o, (fun x => (GRow.el o x).fz) = GRow.el .n) /\ (∀ o x, fzs (GRow.cs o x) = GRow.cs .n x) /\ (∀ o, (fun x => (GTurn.el o x).fz) = GTurn.el .n) /\ (∀ o x, fzs (GTurn.cs o x) = GTurn.cs .n x) /\ (∀ o, (fun x => (GConf.el o x).fz) = GConf.el .n) /\ (∀ o x, fzs (GConf.cs o x) = GConf.cs .n x) /\ (∀ o, (fun x => (GOut.el o x).fz) = GOut.el .n) /\ (∀ o x, fzs (GOut.cs o x) = GOut.cs .n x) /\ (∀ o, (fun x => (GHouse.el o x).fz) = GHouse.el .n) /\ (∀ o x, fzs (GHouse.cs o x) = GHouse.cs .n x) /\ (∀ o, (fun x => (GPack.el o x).fz) = GPack.el .n) /\ (∀ o x, fzs (GPack.cs o x) = GPack.cs .n x) /\ (∀ o, (fun x => (GWorld.el o x).fz) = GWorld.el .n) /\ (∀ o x, fzs (GWorld.cs o x) = GWorld.cs .n x) /\ (∀ o, (fun x => (GDeed.el o x).fz) = GDeed.el .n) /\ (∀ o x, fzs (GDeed.cs o x) = GDeed.cs .n x)) := ⟨@Z6u, @Zk1, fzl0⟩
end Go.Wr
namespace Go.Wr
def allIx (n : Nat) (p : Nat -> Bool) : Bool := (List.range n).all p
theorem Zf {n : Nat} {p : Nat -> Bool} (h : ∀ j, j < n -> p j = true) : allIx n p = true := by
 unfold allIx
 rw [Y18]
 intro j hj
 exact h j (Y64.1 hj)
theorem Ze {n i : Nat} {p : Nat -> Bool} (hi : i < n) (h : p i = false) : allIx n p = false := by
 rw [Y6]
 intro h2
 have := Y18.1 h2 i (Y64.2 hi)
 rw [h] at this; cases this
theorem Zd {n : Nat} {p : Nat -> Bool} : allIx n p = true <-> ∀ j, j < n -> p j = true := by
 constructor
 ·intro h j hj
  exact Y18.1 h j (Y64.2 hj)
 ·exact Zf
theorem Zl8 {p : Nat -> Bool} {i : Nat} (h : ∀ j, j < i -> p j = true) (hi : p i = true) : ∀ j, j < i + 1 -> p j = true := fun j hj => by
 rcases Nat.lt_succ_iff_lt_or_eq.1 hj with h1 | h1
 ·exact h j h1
 ·exact h1 ▸ hi
theorem Zc {n : Nat} {p q : Nat -> Bool} (h : ∀ j, j < n -> p j = q j) : allIx n p = allIx n q := by
 rw [Y7, Zd, Zd]
 exact ⟨fun h2 j hj => h j hj ▸ h2 j hj, fun h2 j hj => (h j hj).symm ▸ h2 j hj⟩
theorem Zkj {α : Type} {l : List α} {p : α -> Bool} {i : Nat} {x : α} (h : (l.take i).all p = true) (hx : l[i]? = some x) (hp : p x = true) : (l.take (i + 1)).all p = true := by
 rw [List.take_succ_eq_append_getElem (Y36.1 hx).1, List.all_append, h]
 obtain ⟨hl, rfl⟩ := Y36.1 hx
 simp [hp]
theorem Zbs {α : Type} {l : List α} {p : α -> Bool} {i : Nat} {x : α} (hx : l[i]? = some x) (hp : p x = false) : l.all p = false := by
 rw [Y6]
 intro h
 have := Y18.1 h x (Y62 hx)
 rw [hp] at this; cases this
theorem Zkl {α : Type} {l : List α} {p : α -> Bool} (h : (l.take l.length).all p = true) : l.all p = true := by
 rwa [Y72] at h
def numsOk (l : List Int) (lo hi : Int) : Bool := decide (l.length = 3) && l.all (inB · lo hi)
def GConf.ok (c : GConf) : Bool := inB c.Per 1 8 && inB c.Quantum 1 60 && inB c.Quota 1 10 && numsOk c.Weights 1 4 && inB c.Join 1 100 && inB c.Long 1 20 && inB c.Grace 0 20 && inB c.Still 1 50
def idOf (a s : Int) : Int := if inB a 0 2 && inB s 1 60 then 100 * a + s else -1
def okAt (s : List GSpan) (i : Nat) : Bool := match s[i]? with
 | none => false
 | some x => inB x.Lo 0 9999 && inB x.Hi x.Lo 9999 && (match i with
  | 0 => true
  | k + 1 => match s[k]? with
   | some p => !decide (x.Lo <= p.Hi + 1)
   | none => false)
def setOk (s : List GSpan) : Bool := allIx s.length (okAt s)
def setHas (s : List GSpan) (n : Int) : Bool := s.any fun x => inB n x.Lo x.Hi
def spanApart (x y : GSpan) : Bool := !(decide (x.Lo <= y.Hi) && decide (y.Lo <= x.Hi))
def setApart (a b : List GSpan) : Bool := setOk a && setOk b && a.all fun x => b.all fun y => spanApart x y
def sumSpan (s : List GSpan) : Int := (s.map fun x => x.Hi - x.Lo + 1).sum
def setSize (s : List GSpan) : Int := if setOk s then sumSpan s else 0
def allIn (s : List GSpan) (lo hi : Int) : Bool := setOk s && s.all fun x => decide (lo <= x.Lo) && decide (x.Hi <= hi)
structure SetR (s : List GSpan) : Prop where
 lo : ∀ x ∈ s, 0 <= x.Lo /\ x.Lo <= x.Hi /\ x.Hi <= 9999
 ord : s.Pairwise fun x y => x.Hi + 1 < y.Lo
theorem Ziv (s : List GSpan) : setOk s = true <-> SetR s := by
 unfold setOk
 rw [Zd]
 constructor
 ·intro h
  have hb : ∀ (i : Nat) x, s[i]? = some x -> 0 <= x.Lo /\ x.Lo <= x.Hi /\ x.Hi <= 9999 := fun i x hx => by
   have := h i (Y36.1 hx).1
   simp only [okAt, hx, inB, Y2, decide_eq_true_eq] at this
   omega
  have hstep : ∀ (i : Nat) x y, s[i]? = some x -> s[i + 1]? = some y -> x.Hi + 1 < y.Lo := fun i x y hx hy => by
   have := h (i + 1) (Y36.1 hy).1
   simp only [okAt, hx, hy, inB, Y2, decide_eq_true_eq, Y11, decide_eq_false_iff_not] at this
   omega
  refine ⟨fun x hx => ?_, ?_⟩
  ·obtain ⟨i, hi⟩ := Y59.1 hx
   exact hb i x hi
  ·rw [Y68]
   intro i j hi hj hij
   obtain ⟨d, rfl⟩ : ∃ d, j = i + 1 + d := ⟨j - i - 1, by omega⟩
   induction d with
   | zero => exact hstep i _ _ (Y34 hi) (Y34 hj)
   | succ d ih =>
    have h1 := ih (by omega) (by omega)
    have h2 := hstep (i + 1 + d) _ _ (Y34 (by omega)) (Y34 hj)
    have h3 := hb (i + 1 + d) _ (Y34 (by omega))
    omega
 ·intro h j hj
  have hx := Y34 hj
  have h1 := h.lo _ (Y62 hx)
  simp only [okAt, hx, inB, Y2, decide_eq_true_eq]
  refine ⟨⟨⟨by omega, by omega⟩, by omega, by omega⟩, ?_⟩
  cases j with
  | zero => rfl
  | succ k =>
   have hk : k < s.length := by omega
   have h2 := Y68.1 h.ord k (k + 1) hk hj (by omega)
   simp only [Y34 hk, Y11, decide_eq_false_iff_not]
   omega
def lstOk (l : List Int) (n : Nat) (most : Int) (z : Bool) : Bool := decide (l.length = n) && l.all fun x => inB x 0 most && !(z && x != 0)
def GSketch.ok (x : GSketch) : Bool :=
 inB x.Count 0 1000000000 && inB x.Sum 0 1000000000 && inB x.Min 0 1000000 && inB x.Max 0 1000000 && decide (x.Min <= x.Max) && decide (x.Rows.length = 2) &&
 !(x.Count == 0 && (x.Sum != 0 || x.Max != 0)) && lstOk x.Hist 8 1000000000 (x.Count == 0) && lstOk x.Regs 8 17 (x.Count == 0) && x.Rows.all fun r => lstOk r 4 1000000000 (x.Count == 0)
def GEntry.ok (e : GEntry) : Bool := inB e.Key 0 4 && inB e.Window 0 20 && setOk e.Ids && decide (e.Ids ≠ []) && e.Sketch.ok
def apartAt (l : List GEntry) (i : Nat) : Bool := match l[i]? with
 | none => false
 | some e => e.ok && (l.take i).all fun o => setApart e.Ids o.Ids
def entsApart (l : List GEntry) : Bool := allIx l.length (apartAt l)
def GRow.ok (r : GRow) : Bool := decide (r.Lst.length <= 24) && entsApart r.Lst
def aheadE (a b : GEntry) : Bool := decide (a.Key < b.Key) || (a.Key == b.Key && decide (a.Window < b.Window))
def toldN (l : List GOut) (key window : Int) : Nat := l.countP fun o => o.Entry.Key == key && o.Entry.Window == window
def putLast (out : List GSpan) (x : GSpan) : List GSpan := match out.getLast? with
 | some p => if x.Lo <= p.Hi + 1 then out.dropLast ++ [⟨p.Lo, max p.Hi x.Hi⟩] else out ++ [x]
 | none => [x]
def sortG (l : List GSpan) : List GSpan := (sortR (l.map fun x => (x.Lo, x.Hi))).map fun p => ⟨p.1, p.2⟩
def unionG (l : List GSpan) : List GSpan := (sortG l).foldl putLast []
def idsOf (l : List GEntry) : List GSpan := unionG (l.flatMap GEntry.Ids)
structure PutS where
 out : List GSpan
 done : Bool
 x : GSpan
def putStep (p : PutS) (y : GSpan) : PutS :=
 if y.Hi + 1 < p.x.Lo then { p with out := p.out ++ [y] }
 else if y.Lo > p.x.Hi + 1 then (if p.done then { p with out := p.out ++ [y] } else { p with out := p.out ++ [p.x, y], done := true })
 else { p with x := ⟨min p.x.Lo y.Lo, max p.x.Hi y.Hi⟩ }
def putG (s : List GSpan) (x : GSpan) : List GSpan := let p := s.foldl putStep ⟨[], false, x⟩; if p.done then p.out else p.out ++ [p.x]
def joinG (a b : List GSpan) : List GSpan := b.foldl putG a
def GSeat.ok (s : GSeat) (per : Int) : Bool := inB per 1 8 && inB s.Epoch 0 1000 && inB s.Granted 0 60 && allIn s.Taken 1 s.Granted && inB s.Merged 0 (setSize s.Taken) && decide (s.Granted <= s.Merged + per) && inB s.Last 0 1000000
def GTurn.ok (t : GTurn) : Bool := inB t.At 0 2 && numsOk t.Left 0 1000
def ofAgent (ids : List GSpan) (a : Int) : Int := (ids.map fun x => max (min x.Hi (100 * a + 60) - max x.Lo (100 * a + 1) + 1) 0).sum
def rowEnts (h : GHouse) : List GEntry := (h.Rows.map fun rs => (rs.map GRow.Lst).flatten).flatten
def addedE (h : GHouse) : List GEntry := h.Root ++ h.Outs.map GOut.Entry
theorem Z5w {α : Type} {f : α -> T} (h : ∀ x, (f x).flat = true) (l : List α) : flats (l.map f) = true := by
 induction l with
 | nil => rfl
 | cons x l ih => simp [flats, h x, ih]
theorem Zc8 {s : List GSpan} {x : GSpan} (hx : s[0]? = some x) : okAt s 0 = (inB x.Lo 0 9999 && inB x.Hi x.Lo 9999) := by simp [okAt, hx]
theorem Zc7 {s : List GSpan} {k : Nat} {x p : GSpan} (hx : s[k + 1]? = some x) (hp : s[k]? = some p) : okAt s (k + 1) = (inB x.Lo 0 9999 && inB x.Hi x.Lo 9999 && !decide (x.Lo <= p.Hi + 1)) := by simp [okAt, hx, hp]
theorem Zc6 {s : List GSpan} {k : Nat} {p : GSpan} (hp : s[k]? = some p) (h : okAt s k = true) : 0 <= p.Lo /\ p.Lo <= p.Hi /\ p.Hi <= 9999 := by
 simp only [okAt, hp, inB, Y2, decide_eq_true_eq] at h
 omega
theorem Zly {k : Nat} (h : k <= 4194304) : IntKind.i64.wrap (((k + 1 : Nat) : Int) - 1) = k := by rw [w64 (by omega)]; omega
theorem Zit {s : List GSpan} (h : setOk s = true) {x : GSpan} (hx : x ∈ s) : 0 <= x.Lo /\ x.Lo <= x.Hi /\ x.Hi <= 9999 := ((Ziv s).1 h).lo x hx
theorem Zp {α : Type} {f : α -> T} {l : List α} (hl : l.length <= 4194304) : ([] : List T).length + (l.map f).length < lenMax := by simp [lenMax]; omega
theorem outB {a b : Bool} (h : a = b) : (⟨[.one (.b a)], []⟩ : Out) = ⟨[.one (.b b)], []⟩ := by rw [h]
theorem outI {a b : Int} (h : a = b) : (⟨[.one (iT a)], []⟩ : Out) = ⟨[.one (iT b)], []⟩ := by rw [h]
theorem iN4 (n : Nat) : decide ((n : Int) = 4) = decide (n = 4) := by rw [Y7]; simp; omega
theorem iN8 (n : Nat) : decide ((n : Int) = 8) = decide (n = 8) := by rw [Y7]; simp; omega
theorem iN3 (n : Nat) : decide ((n : Int) = 3) = decide (n = 3) := by rw [Y7]; simp; omega
theorem iN : (∀ n : Nat, decide ((n : Int) = 4) = decide (n = 4)) /\ (∀ n : Nat, decide ((n : Int) = 8) = decide (n = 8)) := ⟨iN4, iN8⟩
theorem Zq {α β : Type} {f : α -> T} {g : β -> T} {l : List α} {l2 : List β} (hl : l.length + l2.length <= 4194304) : (l.map f).length + (l2.map g).length < lenMax := by simp [lenMax]; omega
theorem Zr {α : Type} {f : α -> T} {l : List α} {a b c d : T} (hl : l.length <= 4194304) : (l.map f).length + [a, b, c, d].length < lenMax := by simp [lenMax]; omega
theorem Zbj {o : Ob} {sz : Nat} {l : List T} {i : Nat} {t : T} (h : l[i]? = some t) : (T.l o sz l).nav [0 + Int.toNat (i : Int)] = some t := by
 simp [T.nav, T.kid, h]
theorem Zcs {α : Type} {f : α -> T} {l : List α} {i : Nat} (h : i < l.length) : (i : Int) < ((l.map f).length : Nat) := by rw [Y45]; omega
theorem Zk9 {l : List Int} {i : Nat} {x : Int} (h : l[i]? = some x) : (l.take (i + 1)).sum = (l.take i).sum + x := by
 rw [Y70, h]; simp
theorem Z5u {α β : Type} {f : α -> List β} {l : List α} {i : Nat} {x : α} (h : l[i]? = some x) : ((l.take (i + 1)).map f).flatten = ((l.take i).map f).flatten ++ f x := by
 rw [Y70, h]; simp
theorem Z5o {α β : Type} {f : α -> List β} {l : List α} {i : Nat} {x : α} (h : l[i]? = some x) : ((l.take i).map f).flatten.length + (f x).length <= (l.map f).flatten.length := by
 have h2 : l = l.take i ++ x :: l.drop (i + 1) := by
  obtain ⟨hi, rfl⟩ := Y36.1 h
  rw [List.getElem_cons_drop, Y71]
 have h3 := congrArg (fun l => (l.map f).flatten.length) h2
 simp only [Y49, Y50, List.flatten_append, Y27, Y41] at h3
 omega
theorem Z5q {α β : Type} {f : α -> List β} {g : α -> Nat} (h : ∀ x, (f x).length <= g x) (l : List α) : (l.map f).flatten.length <= bulks g l := by
 unfold bulks
 induction l with
 | nil => simp
 | cons x l ih => have := h x; simp only [Y50, Y27, Y41, Y69, Y42]; omega
def rowsE (rs : List GRow) : List GEntry := (rs.map GRow.Lst).flatten
theorem Zgq (h : GHouse) : rowEnts h = (h.Rows.map rowsE).flatten := rfl
theorem Zh1 (rs : List GRow) : (rowsE rs).length <= bulks GRow.bulk rs := Z5q (fun r => Z1t _ _) rs
theorem Zgr (h : GHouse) : (rowEnts h).length <= bulks (bulks GRow.bulk) h.Rows := Z5q Zh1 h.Rows
theorem Zat {α β : Type} {f : α -> β} {l : List α} {i : Nat} {x : α} (h : l[i]? = some x) : (l.take (i + 1)).map f = (l.take i).map f ++ [f x] := by
 rw [Y70, h]; simp
theorem Z9g {ob : Ob} {sz : Nat} {α : Type} {f : α -> T} (o : List α) (p : α) {k : Int} (hk : k = (o.length : Int)) : (T.l ob sz ((o ++ [p]).map f)).nav [0 + k.toNat] = some (f p) := by
 subst hk; simp [T.nav, T.kid]
theorem Z9h {sz : Nat} {α : Type} {f : α -> T} (o : List α) (p : α) {k : Int} (hk : k = (o.length : Int)) : (T.l .y sz ((o ++ [p]).map f)).mine [0 + k.toNat] = true := by
 subst hk; simp [T.mine, Ob.own]
theorem Z9i {ob : Ob} {sz : Nat} {α : Type} {f : α -> T} (o : List α) (p q : α) {k : Int} {x : T} (hk : k = (o.length : Int)) (hx : x = f q) : (T.l ob sz ((o ++ [p]).map f)).put [0 + k.toNat] x = T.l ob sz ((o ++ [q]).map f) := by
 subst hk hx; simp [T.put, T.kid, T.setKid]
theorem Z5y {α β : Type} {f : β -> α -> β} {b : β} {l : List α} {i : Nat} {x : α} (h : l[i]? = some x) : (l.take (i + 1)).foldl f b = f ((l.take i).foldl f b) x := by
 rw [Y70, h]; simp
theorem Zdp (x : GSpan) : putLast [] x = [x] := rfl
theorem Zdr (o : List GSpan) (p x : GSpan) : putLast (o ++ [p]) x = if x.Lo <= p.Hi + 1 then o ++ [⟨p.Lo, max p.Hi x.Hi⟩] else o ++ [p] ++ [x] := by
 simp [putLast]
def HiR (x : GSpan) : Prop := -1 <= x.Hi /\ x.Hi <= 9999
theorem Zdn {o : List GSpan} {x : GSpan} (ho : ∀ y ∈ o, HiR y) (hx : HiR x) : ∀ y ∈ putLast o x, HiR y := by
 rcases List.eq_nil_or_concat o with rfl | ⟨o, p, rfl⟩
 ·simpa [Zdp] using hx
 ·rw [List.concat_eq_append] at ho ⊢
  rw [Zdr]
  have hp := ho p (by simp)
  split
  ·intro y hy
   rcases Y52.1 hy with h | h
   ·exact ho y (by simp [h])
   ·simp only [Y65] at h; subst h
    unfold HiR at *; simp only; omega
  ·intro y hy
   rcases Y52.1 hy with h | h
   ·exact ho y h
   ·simp only [Y65] at h; subst h; exact hx
theorem Zdo (o : List GSpan) (x : GSpan) : (putLast o x).length <= o.length + 1 := by
 rcases List.eq_nil_or_concat o with rfl | ⟨o, p, rfl⟩
 ·simp [Zdp]
 ·rw [List.concat_eq_append, Zdr]; split <;> simp
theorem Z6r (l : List GEntry) : fzs (l.map (GEntry.el .n)) = l.map (GEntry.el .n) := by rw [Z6u, GEntry.fze]
end Go.Wr
namespace Go.Wr
theorem Zoo {α : Type} {f g : α -> T} (l : List α) : sub (l.map f) 0 (l.map g).length = l.map f := by
 unfold sub; rw [List.drop_zero, Y73 (by simp)]
section
variable {id i : Nat} {o : MOper} {d : Option Nat} {op : MOp} {os : List MOper} {fs fs' : Fs} {l l1 l2 l3 : LS} {K : LS -> Prop} {s : Nat} {b want : Bool} {kl : List Nat}
theorem yo  (hK : EvX id (i + 1) os fs' l1 K) (h : (fs.hd (o.exec ((id * 1000 + i + 1) * 8))).ev l = some ((), l1) := by exact rfl) (hf : fs.tlK fun f => f = fs' := by exact rfl) : EvX id i (o :: os) fs l K := zo h hf hK
theorem yy  (h : EvX id i (⟨d, op, none, kl⟩ :: os) fs l K) (hr : fs.has s = true := by exact rfl) (hg : l.get s = .x (.b b) := by exact rfl) (ht : b = want := by with_reducible assumption) : EvX id i (⟨d, op, some (s, want), kl⟩ :: os) fs l K := zy hr hg ht h
theorem ym  (h : EvX id (i + 1) os fs' l1 K) (hr : fs.has s = true := by exact rfl) (hg : l.get s = .x (.b b) := by exact rfl) (ht : b = !want := by with_reducible assumption) (h1 : (fs.hd ((setD d (.tup 0)).bind fun _ => forget kl)).ev l = some ((), l1) := by exact rfl) (hf : fs.tlK fun f => f = fs' := by exact rfl) : EvX id i (⟨d, op, some (s, want), kl⟩ :: os) fs l K := zm hr hg ht h1 hf h
theorem yp {c x y : Opd} {v : T} (h : EvX id (i + 1) os fs' l1 K) (hg : (fs.hd (raw ((id * 1000 + i + 1) * 8) c)).ev l = some (.x (.b b), l) := by exact rfl) (ht : b = want := by with_reducible assumption) (hx : (fs.hd (raw ((id * 1000 + i + 1) * 8) (bif want then x else y))).ev l = some (.x v, l) := by exact rfl) (h1 : (fs.hd ((setD d (.x v)).bind fun _ => forget kl)).ev l = some ((), l1) := by exact rfl) (hf : fs.tlK fun f => f = fs' := by exact rfl) : EvX id i (⟨d, .pick c x y, none, kl⟩ :: os) fs l K := zp hg ht hx h1 hf h
theorem yk {F : Fun} {args : List (Pass × Opd)} {hs : List Hand} {ags : List Arg} {q : Out} (g : Nat) (h2 : F ags = some q) (hK : EvX id (i + 1) os fs' l2 K) (h1 : (fs.hd (callPre ((id * 1000 + i + 1) * 8) args [])).ev l = some (hs, l1) := by exact rfl) (ha : hs.map Hand.arg = ags := by exact rfl) (h3 : callOk hs q = true := by exact rfl) (h4 : (fs.hd ((callPost ((id * 1000 + i + 1) * 8) d hs q).bind fun _ => forget kl)).ev l1 = some ((), l2) := by exact rfl) (hf : fs.tlK fun f => f = fs' := by exact rfl) : EvX id i (⟨d, .call g F args, none, kl⟩ :: os) fs l K := zk g h1 ha h2 h3 h4 hf hK
theorem yv {F : Fun} {args : List (Pass × Opd)} {hs : List Hand} {ags : List Arg} {q : Out} (g : Nat) (h2 : F ags = some q) (hK : EvX id (i + 1) os fs' l2 K) (h1 : (fs.hd (callPre ((id * 1000 + i + 1) * 8) args [])).ev l = some (hs, l1) := by exact rfl) (ha : hs.map Hand.arg = ags := by (simp only [List.map, fzl]; exact rfl)) (h3 : callOk hs q = true := by exact rfl) (h4 : (fs.hd ((callPost ((id * 1000 + i + 1) * 8) d hs q).bind fun _ => forget kl)).ev l1 = some ((), l2) := by exact rfl) (hf : fs.tlK fun f => f = fs' := by exact rfl) : EvX id i (⟨d, .call g F args, none, kl⟩ :: os) fs l K := zk g h1 ha h2 h3 h4 hf hK
theorem yw {F : Fun} {args : List (Pass × Opd)} {hs : List Hand} {ags : List Arg} {q : Out} (g : Nat) (h2 : F ags = some q) (h3 : callOk hs q = true) (hK : EvX id (i + 1) os fs' l2 K) (h1 : (fs.hd (callPre ((id * 1000 + i + 1) * 8) args [])).ev l = some (hs, l1) := by exact rfl) (ha : hs.map Hand.arg = ags := by (simp only [List.map, fzl]; exact rfl)) (h4 : (fs.hd ((callPost ((id * 1000 + i + 1) * 8) d hs q).bind fun _ => forget kl)).ev l1 = some ((), l2) := by exact rfl) (hf : fs.tlK fun f => f = fs' := by exact rfl) : EvX id i (⟨d, .call g F args, none, kl⟩ :: os) fs l K := zk g h1 ha h2 h3 h4 hf hK
theorem yd {x : Opd} {cands : List (Nat × Fun)} {g : Nat} {env : List T} {F : Fun} {args : List (Pass × Opd)} {hs : List Hand} {ags : List Arg} {q : Out} (h2 : F ags = some q) (hK : EvX id (i + 1) os fs' l2 K) (h0 : (fs.hd (raw ((id * 1000 + i + 1) * 8) x)).ev l = some (.x (.f g env), l) := by exact rfl) (hc : cands.find? (fun c => c.1 == g) = some (g, F) := by exact rfl) (h1 : (fs.hd (callPre ((id * 1000 + i + 1) * 8) args env)).ev l = some (hs, l1) := by exact rfl) (ha : hs.map Hand.arg = ags := by exact rfl) (h3 : callOk hs q = true := by exact rfl) (h4 : (fs.hd ((callPost ((id * 1000 + i + 1) * 8) d hs q).bind fun _ => forget kl)).ev l1 = some ((), l2) := by exact rfl) (hf : fs.tlK fun f => f = fs' := by exact rfl) : EvX id i (⟨d, .dyn x cands args, none, kl⟩ :: os) fs l K := zd h0 hc h1 ha h2 h3 h4 hf hK
theorem yi {sz : Nat} {x ix : Opd} {k : IntKind} {n : Int} {es : List T} (t : T) (ht : es[n.toNat]? = some t) (h : EvX id (i + 1) os fs' l1 K) (h1 : (fs.hd (raw ((id * 1000 + i + 1) * 8) ix)).ev l = some (.x (.i k n), l) := by exact rfl) (h2 : (fs.hd (look ((id * 1000 + i + 1) * 8) x)).ev l = some (.x (.l .n sz es), l) := by exact rfl) (h0 : 0 <= n := by exact Y16 _) (h3 : (fs.hd ((setD d (.q t 0)).bind fun _ => forget kl)).ev l = some ((), l1) := by exact rfl) (hf : fs.tlK fun f => f = fs' := by exact rfl) : EvX id i (⟨d, .ia sz x ix, none, kl⟩ :: os) fs l K := zi t h1 h2 h0 ht h3 hf h
theorem yj {sz : Nat} {x ix : Opd} {k : IntKind} {n : Int} {es : List T} (t : T) (h0 : 0 <= n) (ht : es[n.toNat]? = some t) (h : EvX id (i + 1) os fs' l1 K) (h1 : (fs.hd (raw ((id * 1000 + i + 1) * 8) ix)).ev l = some (.x (.i k n), l) := by exact rfl) (h2 : (fs.hd (look ((id * 1000 + i + 1) * 8) x)).ev l = some (.x (.l .n sz es), l) := by exact rfl) (h3 : (fs.hd ((setD d (.q t 0)).bind fun _ => forget kl)).ev l = some ((), l1) := by exact rfl) (hf : fs.tlK fun f => f = fs' := by exact rfl) : EvX id i (⟨d, .ia sz x ix, none, kl⟩ :: os) fs l K := zi t h1 h2 h0 ht h3 hf h
theorem yx {sz : Nat} {x ix : Opd} {k : IntKind} {n : Int} {r' : Nat} {kk : Wr.K} {p : List Nat} {lo m : Nat} (ht : n < m) (h : EvX id (i + 1) os fs' l1 K) (h1 : (fs.hd (raw ((id * 1000 + i + 1) * 8) ix)).ev l = some (.x (.i k n), l) := by exact rfl) (h2 : (fs.hd (look ((id * 1000 + i + 1) * 8) x)).ev l = some (.w r' kk p sz lo m, l) := by exact rfl) (h0 : 0 <= n := by exact Y16 _) (h3 : (fs.hd ((setD d (.ptr r' kk (p ++ [lo + n.toNat]) 0)).bind fun _ => forget kl)).ev l = some ((), l1) := by exact rfl) (hf : fs.tlK fun f => f = fs' := by exact rfl) : EvX id i (⟨d, .ia sz x ix, none, kl⟩ :: os) fs l K := zw h1 h2 h0 ht h3 hf h
theorem yz {sz : Nat} {x ix : Opd} {k : IntKind} {n : Int} {r' : Nat} {kk : Wr.K} {p : List Nat} {lo m : Nat} (h0 : 0 <= n) (ht : n < m) (h : EvX id (i + 1) os fs' l1 K) (h1 : (fs.hd (raw ((id * 1000 + i + 1) * 8) ix)).ev l = some (.x (.i k n), l) := by exact rfl) (h2 : (fs.hd (look ((id * 1000 + i + 1) * 8) x)).ev l = some (.w r' kk p sz lo m, l) := by exact rfl) (h3 : (fs.hd ((setD d (.ptr r' kk (p ++ [lo + n.toNat]) 0)).bind fun _ => forget kl)).ev l = some ((), l1) := by exact rfl) (hf : fs.tlK fun f => f = fs' := by exact rfl) : EvX id i (⟨d, .ia sz x ix, none, kl⟩ :: os) fs l K := zw h1 h2 h0 ht h3 hf h
theorem yl {x : Opd} {rr : Nat} {k : Wr.K} {p : List Nat} {off : Nat} {c : RC} {t : T} (node : T) (hn : c.t.nav p = some node) (h : EvX id (i + 1) os fs' l1 K) (h1 : (fs.hd (addr ((id * 1000 + i + 1) * 8) x)).ev l = some (.ptr rr k p off, l) := by exact rfl) (h2 : (fs.hd (rootP rr k p)).ev l = some (c, l) := by exact rfl) (ht : node.cells[off]? = some t := by exact rfl) (h3 : (fs.hd ((setD d (seen rr c.k p off node t).av).bind fun _ => forget kl)).ev l = some ((), l1) := by exact rfl) (hf : fs.tlK fun f => f = fs' := by exact rfl) : EvX id i (⟨d, .ld none x, none, kl⟩ :: os) fs l K := zl node h1 h2 hn ht h3 hf h
theorem yL {n : Nat} {x : Opd} {rr : Nat} {k : Wr.K} {p : List Nat} {off : Nat} {c : RC} (cs : List T) (hn : c.t.nav p = some (.a cs)) (h : EvX id (i + 1) os fs' l1 K) (h1 : (fs.hd (addr ((id * 1000 + i + 1) * 8) x)).ev l = some (.ptr rr k p off, l) := by exact rfl) (h2 : (fs.hd (rootP rr k p)).ev l = some (c, l) := by exact rfl) (hl : Nat.ble (off + n) cs.length = true := by exact rfl) (h3 : (fs.hd ((setD d (.st (seenCells rr c.k p (.a cs) off (sub cs off n)))).bind fun _ => forget kl)).ev l = some ((), l1) := by exact rfl) (hf : fs.tlK fun f => f = fs' := by exact rfl) : EvX id i (⟨d, .ld (some n) x, none, kl⟩ :: os) fs l K := zL cs h1 h2 hn hl h3 hf h
theorem yS {n : Nat} {tk : Bool} {x v : Opd} {rr : Nat} {k k' : Wr.K} {p : List Nat} {off : Nat} {c : RC} {new : List T} (node : T) (t : T) (hn : c.t.nav p = some node) (hm : c.t.mine p = true) (ht : c.t.put p (node.ofCells (splice node.cells off new)) = t) (h : EvX id (i + 1) os fs' l2 K) (h0 : (fs.hd (give ((id * 1000 + i + 1) * 8) tk v)).ev l = some (new, l1) := by exact rfl) (hl : new.length = n := by exact rfl) (h1 : (fs.hd (addr ((id * 1000 + i + 1) * 8) x)).ev l1 = some (.ptr rr k p off, l1) := by exact rfl) (h2 : (fs.hd (rootP rr k p)).ev l1 = some (c, l1) := by exact rfl) (hok : putOk c p off node new = true := by exact rfl) (hk : (bif (sub node.cells off new.length).all T.scalar && new.all T.scalar then c.k else bump ((id * 1000 + i + 1) * 8) c p) = k' := by exact rfl) (h3 : (fs.hd ((Pg.wr rr ({ c with k := k', t := t } : RC).av).bind fun _ => forget kl)).ev l1 = some ((), l2) := by exact rfl) (hf : fs.tlK fun f => f = fs' := by exact rfl) : EvX id i (⟨none, .sto n tk x v, none, kl⟩ :: os) fs l K := zS node t h0 hl h1 h2 hn hm hok ht hk h3 hf h
end
section
variable {l : LS} {us : List Nat} {K : Ex -> LS -> List Nat -> Prop}
theorem yc {c : MCode} (h : stepC c l us K) (hs : isStep c = true := by exact rfl) : Ev c l us K := zc hs h
theorem yt {c : Opd} {a b : MCode} {t : Bool} {l l1 : LS} {us : List Nat} {K : Ex -> LS -> List Nat -> Prop} (h1 : t = true -> Ev a l us K) (h2 : t = false -> Ev b l us K) (h : (raw 0 c).ev l = some (.x (.b t), l1) := by exact rfl) : Ev (.cond c a b) l us K := zt h h1 h2
theorem yt1 {c : Opd} {a b : MCode} {t : Bool} {l l1 : LS} {us : List Nat} {K : Ex -> LS -> List Nat -> Prop} (h1 : Ev a l us K) (h : (raw 0 c).ev l = some (.x (.b t), l1) := by exact rfl) (ht : t = true := by with_reducible assumption) : Ev (.cond c a b) l us K := zt1 h ht h1
theorem yt0 {c : Opd} {a b : MCode} {t : Bool} {l l1 : LS} {us : List Nat} {K : Ex -> LS -> List Nat -> Prop} (h1 : Ev b l us K) (h : (raw 0 c).ev l = some (.x (.b t), l1) := by exact rfl) (ht : t = false := by with_reducible assumption) : Ev (.cond c a b) l us K := zt0 h ht h1
end
end Go.Wr
namespace Go.Wr
section
variable {id i : Nat} {d : Option Nat} {os : List MOper} {l l1 l2 l3 : LS} {K : LS -> Prop} {kl : List Nat}
theorem Z6d {l : LS} : (fulls []).ev l = some ((), l) := rfl
theorem Z6g {t : T} {cs : List Cell} {l : LS} (h : (fulls cs).ev l = some ((), l)) : (fulls (.x t :: cs)).ev l = some ((), l) := h
theorem Z6f {r : Nat} {k : Wr.K} {p : List Nat} {z lo n : Nat} {cs : List Cell} {l : LS} {c : RC} {sz : Nat} {es : List T} (h1 : (rootW r k p).ev l = some (c, l)) (hn : c.t.nav p = some (.l .y sz es)) (hl : es.length = n) (h : (fulls cs).ev l = some ((), l)) :
  (fulls (.w r k p z lo n :: cs)).ev l = some ((), l) := by
 simp only [fulls, Bind.bind, Z3p, h1, hn, hl, if_true]
 exact h
theorem Z7n {e : Nat} {x : Opd} {r : Nat} {k : Wr.K} {p : List Nat} {z sz : Nat} {c : RC} {es : List T} (h1 : (raw e x).ev l = some (.w r k p z 0 es.length, l)) (h2 : (rootW r k p).ev l = some (c, l)) (hn : c.t.nav p = some (.l .y sz es))
  (hw : (Pg.wr r ({ c with t := c.t.put p .u } : RC).av).ev l = some ((), l1)) : (give e true x).ev l = some ([.l .y sz es], l1) := by
 have hsub : sub es 0 es.length = es := by simp [sub]
 simp only [give, giveW, Bind.bind, Z3p, h1, h2, hn, if_true, hw, hsub]
 rfl
theorem Zdu {e r : Nat} {ls : List (List Nat × T)} {av : AV} {c : RC} {t' : T} (h1 : (Pg.rd r).ev l1 = some (av, l1)) (hc : av.rc = some c) (hp : putsP ls c.t = some t') (hw : (Pg.wr r ({ c with k := ⟨c.k.e, e, e⟩, t := t' } : RC).av).ev l1 = some ((), l2)) :
  (putMut e r ls).ev l1 = some ((), l2) := by
 simp only [putMut, Bind.bind, Z3p, h1, hc, hp]
 exact hw
theorem Zed {p : List Nat} {x t t' : T} (hn : t.nav p = some .u) (hm : t.mine p = true) (he : p.isEmpty = false) (ht : t.put p x = t') : putsP [(p, x)] t = some t' := by
 simp only [putsP, hn, hm, he, Y12, Y5, Y19, if_true, ht]
theorem zM (g : Nat) {F : Fun} {x : Opd} {args : List (Pass × Opd)} {v av0 : AV} {c0 : RC} {l4 : LS} {ps : List (Option (Nat × List Nat))} {r : Nat} {ts cs : List T} {hs : List Hand} {xa : Arg} {ags : List Arg} {q : Out}
  (h1 : (raw ((id * 1000 + i + 1) * 8) x).ev l = some (v, l)) (h2 : planM v = some (ps, r)) (h3 : (fulls v.views).ev l = some ((), l)) (hr : (Pg.rd r).ev l = some (av0, l)) (hc : av0.rc = some c0) (h4 : (give ((id * 1000 + i + 1) * 8) true x).ev l = some (ts, l1))
  (h5 : (hands ((id * 1000 + i + 1) * 8) args (args.map fun _ => none)).ev l1 = some (hs, l1)) (hS : hs.all (fun h => h.bor.isEmpty && h.box.isNone && h.arg.isS) = true) (ha : argM v ts = some xa) (hag : xa :: hs.map Hand.arg = ags) (hF : F ags = some q)
  (hb : q.back = [cs]) (hg : q.res.all RV.good = true) (hl : cs.length = ps.length) (h6 : (putMut ((id * 1000 + i + 1) * 8) r (pairsP ps cs)).ev l1 = some ((), l4)) (h8 : (seeAgain r c0).ev l4 = some ((), l2)) (h7 : ((results ((id * 1000 + i + 1) * 8) d q.res).bind fun _ => forget kl).ev l2 = some ((), l3))
  (hK : EvX id (i + 1) os none l3 K) : EvX id i (⟨d, .callM g F x args, none, kl⟩ :: os) none l K := by
 subst hag
 refine zo ?_ rfl hK
 have hout : outM F v ts hs ps.length = some (q, cs) := by
  simp only [outM, hS, if_true, ha, hF, backM, hb, hg, hl, beq_self_eq_true, Y4]
 show ((doCallM ((id * 1000 + i + 1) * 8) d F x args).bind fun _ => forget kl).ev l = _
 rw [Z3p] at h7 ⊢
 simp only [doCallM, Bind.bind, Z3p, h1, h2, h3, hr, hc, h4, h5, hout, h6, h8]
 exact h7
end
end Go.Wr
namespace Go.Wr
def outKM (f : MFun) (o : Out) : Ex -> LS -> List Nat -> Prop
 | .exit _, _, _ => False
 | _, l, _ => ∃ l', (leaveM f).ev l = some (o, l')
theorem Z6h {f : MFun} {xs : List Arg} {o : Out} (h0 : argsOkM f xs = true) (h : initL 0 xs [] fun l => Ev f.code l [] (outKM f o)) : lock (denFM f) xs = some o := by
 rw [Zac]
 obtain ⟨l, h1, h2⟩ := Z8l xs 0 [] fun l => Ev f.code l [] (outKM f o)
 rw [h1] at h
 obtain ⟨ex, l', us', h3, h4⟩ := h
 rw [h2] at h3
 have h5 : (LS.of [] : St) = fun _ => AV.u := rfl
 rw [h5] at h3
 unfold denFM
 rw [if_pos h0, h3]
 cases ex with
 | exit id => exact h4.elim
 | nx =>
  obtain ⟨l2, h6⟩ := h4
  simp only [Z40 _ h6]
 | ret =>
  obtain ⟨l2, h6⟩ := h4
  simp only [Z40 _ h6]
theorem finM {f : MFun} {o o' : Out} {l l' : LS} (h : (leaveM f).ev l = some (o', l')) (ho : o' = o) : ∃ l', (leaveM f).ev l = some (o, l') := ⟨l', by rw [h, ho]⟩
theorem Zax {o : Ob} {sz i : Nat} {E : List T} {c : T} {q : List Nat} {x : Option T} (hi : i < E.length) (h : c.nav q = x) : (T.l o sz (E.set i c)).nav ((0 + (i : Int).toNat) :: q) = x := by
 simp only [T.nav, T.kid, Y83, Int.toNat_natCast, Y39 hi, Y86, h]
theorem Zaw {sz i : Nat} {E : List T} {c : T} {q : List Nat} (hi : i < E.length) (h : c.mine q = true) : (T.l .y sz (E.set i c)).mine ((0 + (i : Int).toNat) :: q) = true := by
 simp only [T.mine, Y83, Int.toNat_natCast, Y39 hi, h]; rfl
def T.frc : T -> Option T
 | .a cs => forceTs cs fun cs => some (.a cs)
 | t => some t
theorem T.frc_eq {t t' : T} (h : t.frc = some t') : t = t' := by
 cases t <;> simp only [T.frc, Z63, Y89] at h <;> exact h
theorem Zay {o : Ob} {sz i : Nat} {E : List T} {c c' x : T} {q : List Nat} (hi : i < E.length) (h : (c.put q x).frc = some c') : (T.l o sz (E.set i c)).put ((0 + (i : Int).toNat) :: q) x = .l o sz (E.set i c') := by
 have h := T.frc_eq h
 simp only [T.put, T.kid, Y83, Int.toNat_natCast, Y39 hi, T.setKid, List.set_set, h]
theorem Zav {i : Nat} {E : List T} {c : T} (hi : i < E.length) : (i : Int) < (E.set i c).length := by simpa using hi
theorem Zbm : ∀ (p : List Nat) {t x y : T}, t.nav p = some y -> (t.put p x).nav p = some x
 | [], t, x, y, _ => rfl
 | k :: p, t, x, y, h => by
  simp only [T.nav] at h
  cases hk : t.kid k with
  | none => rw [hk] at h; cases h
  | some c =>
   rw [hk] at h
   simp only [T.put, hk, T.nav]
   have : (t.setKid k (c.put p x)).kid k = some (c.put p x) := by
    cases t <;> simp only [T.kid, T.setKid] at hk ⊢ <;> first | cases hk | (have := (Y36.1 hk).1; simp [this])
   rw [this]
   exact Zbm p h
theorem Zb1 : ∀ (p : List Nat) {t x y : T}, t.nav p = some y -> t.mine p = true -> (t.put p x).mine p = true
 | [], t, x, y, _, _ => by cases x <;> rfl
 | k :: p, t, x, y, h, hm => by
  simp only [T.nav] at h
  cases hk : t.kid k with
  | none => rw [hk] at h; cases h
  | some c =>
   rw [hk] at h
   simp only [T.put, hk]
   cases t <;> simp only [T.kid, T.setKid] at hk ⊢ <;> first | cases hk | skip
   ·have h1 := (Y36.1 hk).1
    simp only [T.mine, hk] at hm
    simp only [T.mine, Y39 h1]
    exact Zb1 p h hm
   ·have h1 := (Y36.1 hk).1
    simp only [T.mine, hk, Y2] at hm
    simp only [T.mine, Y39 h1, Y2]
    exact ⟨hm.1, Zb1 p h hm.2⟩
theorem Ze7 : ∀ (p : List Nat) {t x z y : T}, t.nav p = some y -> (t.put p x).put p z = t.put p z
 | [], t, x, z, y, _ => rfl
 | k :: p, t, x, z, y, h => by
  simp only [T.nav] at h
  cases hk : t.kid k with
  | none => rw [hk] at h; cases h
  | some c =>
   rw [hk] at h
   have : ∀ d : T, (t.setKid k d).kid k = some d := by
    intro d
    cases t <;> simp only [T.kid, T.setKid] at hk ⊢ <;> first | cases hk | (have := (Y36.1 hk).1; simp [this])
   have h2 : ∀ d e : T, (t.setKid k d).setKid k e = t.setKid k e := by
    intro d e
    cases t <;> simp only [T.setKid, List.set_set]
   simp only [T.put, hk, this, h2]
   rw [Ze7 p h]
section
variable {id i : Nat} {d : Option Nat} {os : List MOper} {l l1 l2 l3 l4 : LS} {K : LS -> Prop} {kl : List Nat}
theorem yM (g : Nat) {F : Fun} {x : Opd} {args : List (Pass × Opd)} {av0 av1 : AV} {c c1 : RC} {r z n : Nat} {k : Wr.K} {p : List Nat} {es es' : List T} {t1 t2 : T} {hs : List Hand} {ags : List Arg} {rs : List RV}
  (hF : F (.mu (.l .y z es) :: ags) = some ⟨rs, [[.l .y z es']]⟩) (hK : EvX id (i + 1) os none l3 K)
  (h1 : (raw ((id * 1000 + i + 1) * 8) x).ev l = some (.w r k p z 0 n, l) := by exact rfl) (hpe : p.isEmpty = false := by exact rfl) (h2 : (rootW r k p).ev l = some (c, l) := by exact rfl) (hn : c.t.nav p = some (.l .y z es) := by first | exact Zax (by assumption) rfl | exact rfl)
  (hm : c.t.mine p = true := by first | exact Zaw (by assumption) rfl | exact rfl) (hlen : es.length = n := by exact rfl) (hr : (Pg.rd r).ev l = some (av0, l) := by exact rfl) (hc : av0.rc = some c := by exact rfl) (hp1 : c.t.put p .u = t1 := by first | exact Zay (by assumption) rfl | exact rfl)
  (hw : (Pg.wr r ({ c with t := t1 } : RC).av).ev l = some ((), l1) := by exact rfl) (h5 : (hands ((id * 1000 + i + 1) * 8) args (args.map fun _ => none)).ev l1 = some (hs, l1) := by exact rfl) (hS : hs.all (fun h => h.bor.isEmpty && h.box.isNone && h.arg.isS) = true := by exact rfl) (hag : hs.map Hand.arg = ags := by exact rfl)
  (hg : rs.all RV.good = true := by exact rfl) (hr1 : (Pg.rd r).ev l1 = some (av1, l1) := by exact rfl) (hc1 : av1.rc = some c1 := by exact rfl) (ht1 : c1.t = t1 := by exact rfl) (hp2 : c.t.put p (.l .y z es') = t2 := by first | exact Zay (by assumption) rfl | exact rfl)
  (hw2 : (Pg.wr r ({ c1 with k := ⟨c1.k.e, (id * 1000 + i + 1) * 8, (id * 1000 + i + 1) * 8⟩, t := t2 } : RC).av).ev l1 = some ((), l4) := by exact rfl) (h8 : (seeAgain r c).ev l4 = some ((), l2) := by exact rfl) (h7 : ((results ((id * 1000 + i + 1) * 8) d rs).bind fun _ => forget kl).ev l2 = some ((), l3) := by exact rfl) :
  EvX id i (⟨d, .callM g F x args, none, kl⟩ :: os) none l K := by
 subst hlen hp1 hp2 hag
 refine zM (ts := [.l .y z es]) (cs := [.l .y z es']) (ps := [some (r, p)]) (r := r) g h1 rfl (Z6f h2 hn rfl Z6d) hr hc (Z7n h1 h2 hn hw) h5 hS rfl rfl hF rfl hg rfl ?_ h8 h7 hK
 refine Zdu (t' := c.t.put p (.l .y z es')) hr1 hc1 ?_ hw2
 show putsP [(p, .l .y z es')] c1.t = _
 rw [ht1]
 exact Zed (Zbm p hn) (Zb1 p hn hm) hpe (Ze7 p hn)
theorem yN (g : Nat) {F : Fun} {x : Opd} {args : List (Pass × Opd)} {v av0 : AV} {c0 : RC} {ps : List (Option (Nat × List Nat))} {r : Nat} {ts cs : List T} {hs : List Hand} {xa : Arg} {ags : List Arg} {q : Out}
  (hF : F ags = some q) (hK : EvX id (i + 1) os none l3 K) (h1 : (raw ((id * 1000 + i + 1) * 8) x).ev l = some (v, l) := by exact rfl) (h2 : planM v = some (ps, r) := by exact rfl) (h3 : (fulls v.views).ev l = some ((), l) := by repeat' (first | exact Z6d | (apply Z6f;exact rfl;exact rfl;exact rfl) | apply Z6g))
  (hr : (Pg.rd r).ev l = some (av0, l) := by exact rfl) (hc : av0.rc = some c0 := by exact rfl) (h4 : (give ((id * 1000 + i + 1) * 8) true x).ev l = some (ts, l1) := by exact rfl)
  (h5 : (hands ((id * 1000 + i + 1) * 8) args (args.map fun _ => none)).ev l1 = some (hs, l1) := by exact rfl) (hS : hs.all (fun h => h.bor.isEmpty && h.box.isNone && h.arg.isS) = true := by exact rfl) (ha : argM v ts = some xa := by exact rfl) (hag : xa :: hs.map Hand.arg = ags := by (simp only [List.map, Zk1]; exact rfl))
  (hb : q.back = [cs] := by exact rfl) (hg : q.res.all RV.good = true := by exact rfl) (hl : cs.length = ps.length := by exact rfl) (h6 : (putMut ((id * 1000 + i + 1) * 8) r (pairsP ps cs)).ev l1 = some ((), l4) := by exact rfl) (h8 : (seeAgain r c0).ev l4 = some ((), l2) := by exact rfl) (h7 : ((results ((id * 1000 + i + 1) * 8) d q.res).bind fun _ => forget kl).ev l2 = some ((), l3) := by exact rfl) :
  EvX id i (⟨d, .callM g F x args, none, kl⟩ :: os) none l K :=
 zM g h1 h2 h3 hr hc h4 h5 hS ha hag hF hb hg hl h6 h8 h7 hK
end
def sc (k : Int) : Int := IntKind.i64.wrap (k + 1)
def mkL {α : Type} (m : α -> Int -> α × Int) : List α -> Int -> List α × Int
 | [], k => ([], k)
 | x :: l, k => ((m x k).1 :: (mkL m l (m x k).2).1, (mkL m l (m x k).2).2)
def top62 : Int := 4611686018427387904
def Mok {α : Type} (m : α -> Int -> α × Int) (w : α -> Nat) : Prop := ∀ x k (r : Nat), 0 <= k -> k + ((w x + r : Nat) : Int) <= top62 -> 0 <= (m x k).2 /\ (m x k).2 + (r : Int) <= top62
def wL {α : Type} (w : α -> Nat) (l : List α) : Nat := (l.map fun x => 1 + w x).sum
theorem Zlj {α : Type} (w : α -> Nat) : ∀ (l : List α), l.length <= wL w l
 | [] => Nat.le_refl _
 | x :: l => by have := Zlj w l; simp only [wL, Y50, Y69, Y42] at *; omega
theorem Zi4 {k : Int} {r : Nat} (h : 0 <= k) (h1 : k + ((1 + r : Nat) : Int) <= top62) : 0 <= sc k /\ sc k + (r : Int) <= top62 := by
 unfold sc top62 at *
 rw [IntKind.wrap_i64]
 omega
theorem Zb6 {α : Type} {m : α -> Int -> α × Int} {w : α -> Nat} (h : Mok m w) : Mok (mkL m) (wL w) := by
 intro l
 induction l with
 | nil => intro k r h1 h2; simp only [wL, List.map_nil, List.sum_nil, Y83] at h2; exact ⟨h1, h2⟩
 | cons x l ih =>
  intro k r h1 h2
  simp only [wL, Y50, Y69] at h2
  obtain ⟨h3, h4⟩ := h x k (wL w l + r) h1 (by unfold wL; omega)
  exact ih _ r h3 h4
theorem Zb4 {α : Type} (m : α -> Int -> α × Int) : ∀ (l : List α) (k : Int), (mkL m l k).1.length = l.length
 | [], _ => rfl
 | x :: l, k => by simp only [mkL, Y42, Zb4 m l]
theorem Zb2 {α : Type} (m : α -> Int -> α × Int) (x : α) : ∀ (l : List α) (k : Int), mkL m (l ++ [x]) k = ((mkL m l k).1 ++ [(m x (mkL m l k).2).1], (m x (mkL m l k).2).2)
 | [], k => rfl
 | y :: l, k => by simp only [Y24, mkL, Zb2 m x l]
theorem Zb3 {α : Type} (m : α -> Int -> α × Int) : ∀ (l : List α) (k : Int) (i : Nat) (x : α), l[i]? = some x -> (mkL m l k).1[i]? = some (m x (mkL m (l.take i) k).2).1
 | [], k, i, x, h => by simp at h
 | y :: l, k, 0, x, h => by simp only [Y32, Y89] at h; subst h; rfl
 | y :: l, k, i + 1, x, h => by
  simp only [Y31] at h
  simp only [mkL, Y31, List.take_succ_cons]
  exact Zb3 m l _ i x h
theorem Zkk {α : Type} {l : List α} {i : Nat} {x : α} (h : l[i]? = some x) : l.take (i + 1) = l.take i ++ [x] := by rw [Y70, h]; rfl
theorem Zb5 {α : Type} {m : α -> Int -> α × Int} {w : α -> Nat} (h : Mok m w) {l : List α} {k : Int} (h1 : 0 <= k) (h2 : k + (wL w l : Int) <= top62) {i : Nat} {x : α} (hx : l[i]? = some x) : 0 <= (mkL m (l.take i) k).2 /\ (mkL m (l.take i) k).2 + (w x : Int) <= top62 := by
 have h3 : wL w l = wL w (l.take i) + (1 + w x + wL w (l.drop (i + 1))) := by
  have h4 : i < l.length := (Y36.1 hx).1
  have h5 : l[i] = x := by rw [Y34 h4] at hx; exact Option.some.inj hx
  have : l = l.take i ++ (x :: l.drop (i + 1)) := by rw [<- h5, <- List.drop_eq_getElem_cons h4, Y71]
  conv => lhs; rw [this]
  simp only [wL, Y49, List.sum_append, Y50, Y69]
 rw [h3] at h2
 obtain ⟨h6, h7⟩ := Zb6 h (l.take i) k _ h1 h2
 exact ⟨h6, by omega⟩
def mkd {α : Type} (m : α -> Int -> α × Int) (l : List α) (k : Int) (i : Nat) : List α := (mkL m (l.take i) k).1 ++ l.drop i
theorem Zb8 {α : Type} (m : α -> Int -> α × Int) (l : List α) (k : Int) (i : Nat) : (mkd m l k i).length = l.length := by
 simp only [mkd, Y41, Zb4, Y48, List.length_drop]; omega
theorem Zb7 {α : Type} {m : α -> Int -> α × Int} {l : List α} {k : Int} {i : Nat} {x : α} (h : l[i]? = some x) : (mkd m l k i)[i]? = some x := by
 have h1 : i < l.length := (Y36.1 h).1
 have h2 : (mkL m (l.take i) k).1.length = i := by rw [Zb4, Y48]; omega
 rw [mkd, Y30 (by omega), h2, Nat.sub_self, Y33, Y75, h]
theorem Zb9 {α : Type} {m : α -> Int -> α × Int} {l : List α} {k : Int} {i : Nat} {x : α} (h : l[i]? = some x) : (mkd m l k i).set i (m x (mkL m (l.take i) k).2).1 = mkd m l k (i + 1) := by
 have h1 : i < l.length := (Y36.1 h).1
 have h2 : (mkL m (l.take i) k).1.length = i := by rw [Zb4, Y48]; omega
 have h5 : l[i] = x := by rw [Y34 h1] at h; exact Option.some.inj h
 rw [mkd, List.set_append_right _ _ (by omega), h2, Nat.sub_self, mkd, Zkk h, Zb2, Y21]
 rw [show l.drop i = x :: l.drop (i + 1) by rw [<- h5, <- List.drop_eq_getElem_cons h1]]
 rfl
theorem Ziz {α : Type} {l : List α} {i : Nat} {x : α} (h : l[i]? = some x) : l.set i x = l := by
 obtain ⟨h1, h2⟩ := Y36.1 h
 rw [<- h2, List.set_getElem_self]
section
variable {c : MCode} {l : LS} {us : List Nat} {K : Ex -> LS -> List Nat -> Prop}
theorem zmark {keep : List Nat} {α : Type} (el : α -> T) {m : α -> Int -> α × Int} {w : α -> Nat} (hm : Mok m w) {xs : List α} {k0 : Int} (hk0 : 0 <= k0) (hw : k0 + (wL w xs : Int) <= top62) {sz : Nat}
  (hS : (l.restr keep fun x => x) = [(0, .own ⟨0, 0, 0⟩ (.l .y sz (xs.map el))), (1, .x (iT k0)), (5, .x (iT 0))])
  (step : ∀ (i : Nat) (E : List T) (x : α) (k : Int), i < E.length -> 0 <= k -> k + (w x : Int) <= top62 -> decide ((i : Int) < (E.set i (el x)).length) = true ->
   (∀ l' us', (l'.restr keep fun x => x) = [(0, .own ⟨0, 0, 0⟩ (.l .y sz (E.set i (el (m x k).1)))), (1, .x (iT (m x k).2)), (5, .x (iT (IntKind.i64.wrap (i + 1))))] -> loopK keep c K .nx l' us') ->
   Ev c [(0, .own ⟨0, 0, 0⟩ (.l .y sz (E.set i (el x)))), (1, .x (iT k)), (5, .x (iT i))] [] (loopK keep c K))
  (last : ∀ (k : Int) (E : List T), decide ((xs.length : Int) < E.length) = false -> k = (mkL m xs k0).2 -> E = (mkL m xs k0).1.map el -> Ev c [(0, .own ⟨0, 0, 0⟩ (.l .y sz E)), (1, .x (iT k)), (5, .x (iT xs.length))] [] (loopK keep c K)) : Ev (.loop keep c) l us K := by
 have hl := Zlj w xs
 unfold top62 at hw
 refine Z3v (fun i (_ : Unit) => [(0, .own ⟨0, 0, 0⟩ (.l .y sz ((mkd m xs k0 i).map el))), (1, .x (iT (mkL m (xs.take i) k0).2)), (5, .x (iT i))]) (fun _ _ => True) xs.length () trivial ?_ ?_
 ·rw [hS]; rfl
 intro i _ hi _ ih
 rcases Y79 i xs.length with hlt | hge
 ·have hx := Y34 hlt
  generalize xs[i] = x at hx
  have h1 : (mkd m xs k0 i).map el = ((mkd m xs k0 i).map el).set i (el x) := by
   rw [<- List.map_set, Ziz (Zb7 hx)]
  have h2 : ((mkd m xs k0 i).map el).set i (el (m x (mkL m (xs.take i) k0).2).1) = (mkd m xs k0 (i + 1)).map el := by rw [<- List.map_set, Zb9 hx]
  have h3 : (m x (mkL m (xs.take i) k0).2).2 = (mkL m (xs.take (i + 1)) k0).2 := by rw [Zkk hx, Zb2]
  have h4 : i < ((mkd m xs k0 i).map el).length := by rw [Y45, Zb8]; exact hlt
  have h5 := ih () hlt trivial
  simp only [<- h2, <- h3, <- w64s (show i < 9223372036854775807 by omega)] at h5
  show Ev c [(0, .own ⟨0, 0, 0⟩ (.l .y sz ((mkd m xs k0 i).map el))), (1, .x (iT (mkL m (xs.take i) k0).2)), (5, .x (iT i))] [] _
  rw [h1]
  obtain ⟨h6, h7⟩ := Zb5 hm hk0 hw hx
  exact step i _ x _ h4 h6 h7 (by rw [List.length_set]; exact decide_eq_true (by omega)) h5
 ·have h1 : i = xs.length := by omega
  subst h1
  refine last _ _ (by rw [Y45, Zb8]; simp) (by rw [Y72]) ?_
  rw [mkd, Y72, List.drop_length, Y22]
theorem zheld {keep : List Nat} {α : Type} (el : α -> T) {m : α -> Int -> α × Int} {w : α -> Nat} (hm : Mok m w) {xs : List α} {k0 : Int} (hk0 : 0 <= k0) (hw : k0 + (wL w xs : Int) <= top62) {sz : Nat}
  (hS : (l.restr keep fun x => x) = [(0, .x (.l .n sz ((mkL m xs k0).1.map el))), (1, .x (iT k0)), (5, .x (iT 0))])
  (step : ∀ (i : Nat) (E : List T) (x : α) (k : Int), E[((i : Nat) : Int).toNat]? = some (el (m x k).1) -> 0 <= k -> k + (w x : Int) <= top62 -> decide ((i : Int) < E.length) = true ->
   (∀ l' us', (l'.restr keep fun x => x) = [(0, .x (.l .n sz E)), (1, .x (iT (m x k).2)), (5, .x (iT (IntKind.i64.wrap (i + 1))))] -> loopK keep c K .nx l' us') ->
   Ev c [(0, .x (.l .n sz E)), (1, .x (iT k)), (5, .x (iT i))] [] (loopK keep c K))
  (last : ∀ (k : Int) (E : List T), decide ((xs.length : Int) < E.length) = false -> k = (mkL m xs k0).2 -> Ev c [(0, .x (.l .n sz E)), (1, .x (iT k)), (5, .x (iT xs.length))] [] (loopK keep c K)) : Ev (.loop keep c) l us K := by
 have hl := Zlj w xs
 unfold top62 at hw
 refine Z3v (fun i (_ : Unit) => [(0, .x (.l .n sz ((mkL m xs k0).1.map el))), (1, .x (iT (mkL m (xs.take i) k0).2)), (5, .x (iT i))]) (fun _ _ => True) xs.length () trivial ?_ ?_
 ·rw [hS]; rfl
 intro i _ hi _ ih
 rcases Y79 i xs.length with hlt | hge
 ·have hx := Y34 hlt
  generalize xs[i] = x at hx
  have h1 : ((mkL m xs k0).1.map el)[((i : Nat) : Int).toNat]? = some (el (m x (mkL m (xs.take i) k0).2).1) := by
   rw [Int.toNat_natCast, Y37, Zb3 m xs k0 i x hx]; rfl
  have h3 : (m x (mkL m (xs.take i) k0).2).2 = (mkL m (xs.take (i + 1)) k0).2 := by rw [Zkk hx, Zb2]
  have h5 := ih () hlt trivial
  simp only [<- h3, <- w64s (show i < 9223372036854775807 by omega)] at h5
  obtain ⟨h6, h7⟩ := Zb5 hm hk0 hw hx
  exact step i _ x _ h1 h6 h7 (by rw [Y45, Zb4]; exact decide_eq_true (by omega)) h5
 ·have h1 : i = xs.length := by omega
  subst h1
  exact last _ _ (by rw [Y45, Zb4]; simp) (by rw [Y72])
end
def one1 {α : Type} (_ : α) : Nat := 1
def iM (_ : Int) (k : Int) : Int × Int := (k, sc k)
def bM (_ : UInt8) (k : Int) : UInt8 × Int := (UInt8.ofNat (IntKind.u8.wrap k).toNat, sc k)
theorem Z86 : Mok iM one1 := fun x k r h h1 => Zi4 h h1
theorem Z17 : Mok bM one1 := fun x k r h h1 => Zi4 h h1
theorem Zk4 {α : Type} {f : α -> T} {m : α -> Int -> α × Int} {l : List α} {k : Int} : sub ((mkL m l k).1.map f) 0 (l.map f).length = (mkL m l k).1.map f := by
 unfold sub; rw [List.drop_zero, Y73 (by simp [Zb4])]
theorem nnd {k : Int} (h : 0 <= k) : decide (k < 0) = false := by simpa using h
theorem neI (k : Int) : (k != k) = false := by simp
theorem neB (k : Bool) : (k != k) = false := by simp
end Go.Wr
namespace Go.Wr
section
variable {id i : Nat} {o : MOper} {d : Option Nat} {op : MOp} {os : List MOper} {fs fs' : Fs} {l l1 l2 l3 : LS} {K : LS -> Prop} {s : Nat} {b want : Bool} {kl : List Nat}
inductive GiveCs (fs : Fs) : List Cell -> LS -> List T -> LS -> Prop
 | nil (l : LS) : GiveCs fs [] l [] l
 | x {cs : List Cell} {l l' : LS} {t : T} {ts : List T} : GiveCs fs cs l ts l' -> GiveCs fs (.x t :: cs) l (t :: ts) l'
 | w {cs : List Cell} {l l1 l' : LS} {r : Nat} {k : Wr.K} {p : List Nat} {z n sz : Nat} {c : RC} {es ts : List T} {t1 : T} (h2 : (fs.hd (rootW r k p)).ev l = some (c, l)) (hn : c.t.nav p = some (.l .y sz es)) (hlen : es.length = n) (hp : c.t.put p .u = t1)
   (hw : (fs.hd (Pg.wr r ({ c with t := t1 } : RC).av)).ev l = some ((), l1)) : GiveCs fs cs l1 ts l' -> GiveCs fs (.w r k p z 0 n :: cs) l (.l .y sz es :: ts) l'
theorem Zmm {α : Type} {l : List α} {i : Nat} {x : α} (h : l[i]? = some x) : l.set i x = l := by
 refine Y25 fun j => ?_
 by_cases hj : i = j
 ·subst hj
  rw [Y39 (Y36.1 h).1, h]
 ·rw [Y38 hj]
end
end Go.Wr
namespace Go.Wr
def b3 (k : Int) : Bool := decide (Int.tmod k 3 = 0)
def GSketch.mk1 (x : GSketch) (k : Int) : GSketch × Int :=
 let k1 := sc k
 let k2 := sc k1
 let k3 := sc k2
 let k4 := sc k3
 let k5 := ((mkL iM) x.Hist k4).2
 let k6 := ((mkL iM) x.Regs k5).2
 let k7 := ((mkL (mkL iM)) x.Rows k6).2
 (⟨k, k1, k2, k3, ((mkL iM) x.Hist k4).1, ((mkL iM) x.Regs k5).1, ((mkL (mkL iM)) x.Rows k6).1⟩, k7)
def GSketch.w1 (x : GSketch) : Nat := 1 + 1 + 1 + 1 + (wL one1) x.Hist + (wL one1) x.Regs + (wL (wL one1)) x.Rows
theorem GSketch.ok1 : Mok GSketch.mk1 GSketch.w1 := fun x k r h h1 => by
 unfold GSketch.w1 at h1
 have a0 := Zi4 (r := 1 + 1 + 1 + (wL one1) x.Hist + (wL one1) x.Regs + (wL (wL one1)) x.Rows + r) h (by omega)
 have a0b := a0.2
 have a1 := Zi4 (r := 1 + 1 + (wL one1) x.Hist + (wL one1) x.Regs + (wL (wL one1)) x.Rows + r) a0.1 (by omega)
 have a1b := a1.2
 have a2 := Zi4 (r := 1 + (wL one1) x.Hist + (wL one1) x.Regs + (wL (wL one1)) x.Rows + r) a1.1 (by omega)
 have a2b := a2.2
 have a3 := Zi4 (r := (wL one1) x.Hist + (wL one1) x.Regs + (wL (wL one1)) x.Rows + r) a2.1 (by omega)
 have a3b := a3.2
 have a4 := (Zb6 Z86) x.Hist _ ((wL one1) x.Regs + (wL (wL one1)) x.Rows + r) a3.1 (by omega)
 have a4b := a4.2
 have a5 := (Zb6 Z86) x.Regs _ ((wL (wL one1)) x.Rows + r) a4.1 (by omega)
 have a5b := a5.2
 have a6 := (Zb6 (Zb6 Z86)) x.Rows _ (r) a5.1 (by omega)
 have a6b := a6.2
 exact a6
def GSketch.mkS (x : GSketch) (k : Int) : GSketch × Int :=
 let k1 := ((mkL iM) x.Hist k).2
 let k2 := ((mkL iM) x.Regs k1).2
 let k3 := ((mkL (mkL iM)) x.Rows k2).2
 (⟨x.Count, x.Sum, x.Min, x.Max, ((mkL iM) x.Hist k).1, ((mkL iM) x.Regs k1).1, ((mkL (mkL iM)) x.Rows k2).1⟩, k3)
def GSketch.wS (x : GSketch) : Nat := (wL one1) x.Hist + (wL one1) x.Regs + (wL (wL one1)) x.Rows
theorem GSketch.okS : Mok GSketch.mkS GSketch.wS := fun x k r h h1 => by
 unfold GSketch.wS at h1
 have a0 := (Zb6 Z86) x.Hist _ ((wL one1) x.Regs + (wL (wL one1)) x.Rows + r) h (by omega)
 have a0b := a0.2
 have a1 := (Zb6 Z86) x.Regs _ ((wL (wL one1)) x.Rows + r) a0.1 (by omega)
 have a1b := a1.2
 have a2 := (Zb6 (Zb6 Z86)) x.Rows _ (r) a1.1 (by omega)
 have a2b := a2.2
 exact a2
def GSpan.mk1 (x : GSpan) (k : Int) : GSpan × Int :=
 let k1 := sc k
 let k2 := sc k1
 (⟨k, k1⟩, k2)
def GSpan.w1 (x : GSpan) : Nat := 1 + 1
theorem GSpan.ok1 : Mok GSpan.mk1 GSpan.w1 := fun x k r h h1 => by
 unfold GSpan.w1 at h1
 have a0 := Zi4 (r := 1 + r) h (by omega)
 have a0b := a0.2
 have a1 := Zi4 (r := r) a0.1 (by omega)
 have a1b := a1.2
 exact a1
def GSpan.mkS (x : GSpan) (k : Int) : GSpan × Int :=
 (⟨x.Lo, x.Hi⟩, k)
def GSpan.wS (x : GSpan) : Nat := 0
theorem GSpan.okS : Mok GSpan.mkS GSpan.wS := fun x k r h h1 => by
 unfold GSpan.wS at h1
 exact ⟨h, by show k + (r : Int) <= top62; omega⟩
def GItem.mk1 (x : GItem) (k : Int) : GItem × Int :=
 let k1 := sc k
 let k2 := sc k1
 let k3 := sc k2
 let k4 := sc k3
 let k5 := (GSketch.mk1 x.Sketch k4).2
 (⟨k, k1, k2, k3, (GSketch.mk1 x.Sketch k4).1⟩, k5)
def GItem.w1 (x : GItem) : Nat := 1 + 1 + 1 + 1 + GSketch.w1 x.Sketch
theorem GItem.ok1 : Mok GItem.mk1 GItem.w1 := fun x k r h h1 => by
 unfold GItem.w1 at h1
 have a0 := Zi4 (r := 1 + 1 + 1 + GSketch.w1 x.Sketch + r) h (by omega)
 have a0b := a0.2
 have a1 := Zi4 (r := 1 + 1 + GSketch.w1 x.Sketch + r) a0.1 (by omega)
 have a1b := a1.2
 have a2 := Zi4 (r := 1 + GSketch.w1 x.Sketch + r) a1.1 (by omega)
 have a2b := a2.2
 have a3 := Zi4 (r := GSketch.w1 x.Sketch + r) a2.1 (by omega)
 have a3b := a3.2
 have a4 := GSketch.ok1 x.Sketch _ (r) a3.1 (by omega)
 have a4b := a4.2
 exact a4
def GItem.mkS (x : GItem) (k : Int) : GItem × Int :=
 let k1 := (GSketch.mkS x.Sketch k).2
 (⟨x.Seq, x.Class, x.Key, x.Window, (GSketch.mkS x.Sketch k).1⟩, k1)
def GItem.wS (x : GItem) : Nat := GSketch.wS x.Sketch
theorem GItem.okS : Mok GItem.mkS GItem.wS := fun x k r h h1 => by
 unfold GItem.wS at h1
 have a0 := GSketch.okS x.Sketch _ (r) h (by omega)
 have a0b := a0.2
 exact a0
def GEntry.mk1 (x : GEntry) (k : Int) : GEntry × Int :=
 let k1 := sc k
 let k2 := sc k1
 let k3 := ((mkL GSpan.mk1) x.Ids k2).2
 let k4 := (GSketch.mk1 x.Sketch k3).2
 (⟨k, k1, ((mkL GSpan.mk1) x.Ids k2).1, (GSketch.mk1 x.Sketch k3).1⟩, k4)
def GEntry.w1 (x : GEntry) : Nat := 1 + 1 + (wL GSpan.w1) x.Ids + GSketch.w1 x.Sketch
theorem GEntry.ok1 : Mok GEntry.mk1 GEntry.w1 := fun x k r h h1 => by
 unfold GEntry.w1 at h1
 have a0 := Zi4 (r := 1 + (wL GSpan.w1) x.Ids + GSketch.w1 x.Sketch + r) h (by omega)
 have a0b := a0.2
 have a1 := Zi4 (r := (wL GSpan.w1) x.Ids + GSketch.w1 x.Sketch + r) a0.1 (by omega)
 have a1b := a1.2
 have a2 := (Zb6 GSpan.ok1) x.Ids _ (GSketch.w1 x.Sketch + r) a1.1 (by omega)
 have a2b := a2.2
 have a3 := GSketch.ok1 x.Sketch _ (r) a2.1 (by omega)
 have a3b := a3.2
 exact a3
def GEntry.mkS (x : GEntry) (k : Int) : GEntry × Int :=
 let k1 := ((mkL GSpan.mk1) x.Ids k).2
 let k2 := (GSketch.mkS x.Sketch k1).2
 (⟨x.Key, x.Window, ((mkL GSpan.mk1) x.Ids k).1, (GSketch.mkS x.Sketch k1).1⟩, k2)
def GEntry.wS (x : GEntry) : Nat := (wL GSpan.w1) x.Ids + GSketch.wS x.Sketch
theorem GEntry.okS : Mok GEntry.mkS GEntry.wS := fun x k r h h1 => by
 unfold GEntry.wS at h1
 have a0 := (Zb6 GSpan.ok1) x.Ids _ (GSketch.wS x.Sketch + r) h (by omega)
 have a0b := a0.2
 have a1 := GSketch.okS x.Sketch _ (r) a0.1 (by omega)
 have a1b := a1.2
 exact a1
def GFrame.mk1 (x : GFrame) (k : Int) : GFrame × Int :=
 let k1 := sc k
 let k2 := sc k1
 let k3 := sc k2
 let k4 := sc k3
 let k5 := ((mkL GSpan.mk1) x.Taken k4).2
 let k6 := (GItem.mk1 x.Item k5).2
 (⟨k, k1, k2, k3, ((mkL GSpan.mk1) x.Taken k4).1, (GItem.mk1 x.Item k5).1⟩, k6)
def GFrame.w1 (x : GFrame) : Nat := 1 + 1 + 1 + 1 + (wL GSpan.w1) x.Taken + GItem.w1 x.Item
theorem GFrame.ok1 : Mok GFrame.mk1 GFrame.w1 := fun x k r h h1 => by
 unfold GFrame.w1 at h1
 have a0 := Zi4 (r := 1 + 1 + 1 + (wL GSpan.w1) x.Taken + GItem.w1 x.Item + r) h (by omega)
 have a0b := a0.2
 have a1 := Zi4 (r := 1 + 1 + (wL GSpan.w1) x.Taken + GItem.w1 x.Item + r) a0.1 (by omega)
 have a1b := a1.2
 have a2 := Zi4 (r := 1 + (wL GSpan.w1) x.Taken + GItem.w1 x.Item + r) a1.1 (by omega)
 have a2b := a2.2
 have a3 := Zi4 (r := (wL GSpan.w1) x.Taken + GItem.w1 x.Item + r) a2.1 (by omega)
 have a3b := a3.2
 have a4 := (Zb6 GSpan.ok1) x.Taken _ (GItem.w1 x.Item + r) a3.1 (by omega)
 have a4b := a4.2
 have a5 := GItem.ok1 x.Item _ (r) a4.1 (by omega)
 have a5b := a5.2
 exact a5
def GFrame.mkS (x : GFrame) (k : Int) : GFrame × Int :=
 let k1 := ((mkL GSpan.mk1) x.Taken k).2
 let k2 := (GItem.mkS x.Item k1).2
 (⟨x.Kind, x.Agent, x.Epoch, x.Granted, ((mkL GSpan.mk1) x.Taken k).1, (GItem.mkS x.Item k1).1⟩, k2)
def GFrame.wS (x : GFrame) : Nat := (wL GSpan.w1) x.Taken + GItem.wS x.Item
theorem GFrame.okS : Mok GFrame.mkS GFrame.wS := fun x k r h h1 => by
 unfold GFrame.wS at h1
 have a0 := (Zb6 GSpan.ok1) x.Taken _ (GItem.wS x.Item + r) h (by omega)
 have a0b := a0.2
 have a1 := GItem.okS x.Item _ (r) a0.1 (by omega)
 have a1b := a1.2
 exact a1
def GAgent.mk1 (x : GAgent) (k : Int) : GAgent × Int :=
 let k1 := sc k
 let k2 := sc k1
 let k3 := sc k2
 let k4 := sc k3
 let k5 := ((mkL GItem.mk1) x.Sealed k4).2
 let k6 := ((mkL GSpan.mk1) x.Taken k5).2
 let k7 := sc k6
 (⟨k, k1, b3 k2, k3, ((mkL GItem.mk1) x.Sealed k4).1, ((mkL GSpan.mk1) x.Taken k5).1, k6⟩, k7)
def GAgent.w1 (x : GAgent) : Nat := 1 + 1 + 1 + 1 + (wL GItem.w1) x.Sealed + (wL GSpan.w1) x.Taken + 1
theorem GAgent.ok1 : Mok GAgent.mk1 GAgent.w1 := fun x k r h h1 => by
 unfold GAgent.w1 at h1
 have a0 := Zi4 (r := 1 + 1 + 1 + (wL GItem.w1) x.Sealed + (wL GSpan.w1) x.Taken + 1 + r) h (by omega)
 have a0b := a0.2
 have a1 := Zi4 (r := 1 + 1 + (wL GItem.w1) x.Sealed + (wL GSpan.w1) x.Taken + 1 + r) a0.1 (by omega)
 have a1b := a1.2
 have a2 := Zi4 (r := 1 + (wL GItem.w1) x.Sealed + (wL GSpan.w1) x.Taken + 1 + r) a1.1 (by omega)
 have a2b := a2.2
 have a3 := Zi4 (r := (wL GItem.w1) x.Sealed + (wL GSpan.w1) x.Taken + 1 + r) a2.1 (by omega)
 have a3b := a3.2
 have a4 := (Zb6 GItem.ok1) x.Sealed _ ((wL GSpan.w1) x.Taken + 1 + r) a3.1 (by omega)
 have a4b := a4.2
 have a5 := (Zb6 GSpan.ok1) x.Taken _ (1 + r) a4.1 (by omega)
 have a5b := a5.2
 have a6 := Zi4 (r := r) a5.1 (by omega)
 have a6b := a6.2
 exact a6
def GAgent.mkS (x : GAgent) (k : Int) : GAgent × Int :=
 let k1 := ((mkL GItem.mk1) x.Sealed k).2
 let k2 := ((mkL GSpan.mk1) x.Taken k1).2
 (⟨x.Id, x.Epoch, x.Live, x.Granted, ((mkL GItem.mk1) x.Sealed k).1, ((mkL GSpan.mk1) x.Taken k1).1, x.Next⟩, k2)
def GAgent.wS (x : GAgent) : Nat := (wL GItem.w1) x.Sealed + (wL GSpan.w1) x.Taken
theorem GAgent.okS : Mok GAgent.mkS GAgent.wS := fun x k r h h1 => by
 unfold GAgent.wS at h1
 have a0 := (Zb6 GItem.ok1) x.Sealed _ ((wL GSpan.w1) x.Taken + r) h (by omega)
 have a0b := a0.2
 have a1 := (Zb6 GSpan.ok1) x.Taken _ (r) a0.1 (by omega)
 have a1b := a1.2
 exact a1
def GSeat.mk1 (x : GSeat) (k : Int) : GSeat × Int :=
 let k1 := sc k
 let k2 := sc k1
 let k3 := ((mkL GSpan.mk1) x.Taken k2).2
 let k4 := sc k3
 let k5 := sc k4
 (⟨k, k1, ((mkL GSpan.mk1) x.Taken k2).1, k3, k4⟩, k5)
def GSeat.w1 (x : GSeat) : Nat := 1 + 1 + (wL GSpan.w1) x.Taken + 1 + 1
theorem GSeat.ok1 : Mok GSeat.mk1 GSeat.w1 := fun x k r h h1 => by
 unfold GSeat.w1 at h1
 have a0 := Zi4 (r := 1 + (wL GSpan.w1) x.Taken + 1 + 1 + r) h (by omega)
 have a0b := a0.2
 have a1 := Zi4 (r := (wL GSpan.w1) x.Taken + 1 + 1 + r) a0.1 (by omega)
 have a1b := a1.2
 have a2 := (Zb6 GSpan.ok1) x.Taken _ (1 + 1 + r) a1.1 (by omega)
 have a2b := a2.2
 have a3 := Zi4 (r := 1 + r) a2.1 (by omega)
 have a3b := a3.2
 have a4 := Zi4 (r := r) a3.1 (by omega)
 have a4b := a4.2
 exact a4
def GSeat.mkS (x : GSeat) (k : Int) : GSeat × Int :=
 let k1 := ((mkL GSpan.mk1) x.Taken k).2
 (⟨x.Epoch, x.Granted, ((mkL GSpan.mk1) x.Taken k).1, x.Merged, x.Last⟩, k1)
def GSeat.wS (x : GSeat) : Nat := (wL GSpan.w1) x.Taken
theorem GSeat.okS : Mok GSeat.mkS GSeat.wS := fun x k r h h1 => by
 unfold GSeat.wS at h1
 have a0 := (Zb6 GSpan.ok1) x.Taken _ (r) h (by omega)
 have a0b := a0.2
 exact a0
def GRow.mk1 (x : GRow) (k : Int) : GRow × Int :=
 let k1 := ((mkL GEntry.mk1) x.Lst k).2
 (⟨((mkL GEntry.mk1) x.Lst k).1⟩, k1)
def GRow.w1 (x : GRow) : Nat := (wL GEntry.w1) x.Lst
theorem GRow.ok1 : Mok GRow.mk1 GRow.w1 := fun x k r h h1 => by
 unfold GRow.w1 at h1
 have a0 := (Zb6 GEntry.ok1) x.Lst _ (r) h (by omega)
 have a0b := a0.2
 exact a0
def GRow.mkS (x : GRow) (k : Int) : GRow × Int :=
 let k1 := ((mkL GEntry.mk1) x.Lst k).2
 (⟨((mkL GEntry.mk1) x.Lst k).1⟩, k1)
def GRow.wS (x : GRow) : Nat := (wL GEntry.w1) x.Lst
theorem GRow.okS : Mok GRow.mkS GRow.wS := fun x k r h h1 => by
 unfold GRow.wS at h1
 have a0 := (Zb6 GEntry.ok1) x.Lst _ (r) h (by omega)
 have a0b := a0.2
 exact a0
def GTurn.mk1 (x : GTurn) (k : Int) : GTurn × Int :=
 let k1 := sc k
 let k2 := sc k1
 let k3 := ((mkL iM) x.Left k2).2
 (⟨k, b3 k1, ((mkL iM) x.Left k2).1⟩, k3)
def GTurn.w1 (x : GTurn) : Nat := 1 + 1 + (wL one1) x.Left
theorem GTurn.ok1 : Mok GTurn.mk1 GTurn.w1 := fun x k r h h1 => by
 unfold GTurn.w1 at h1
 have a0 := Zi4 (r := 1 + (wL one1) x.Left + r) h (by omega)
 have a0b := a0.2
 have a1 := Zi4 (r := (wL one1) x.Left + r) a0.1 (by omega)
 have a1b := a1.2
 have a2 := (Zb6 Z86) x.Left _ (r) a1.1 (by omega)
 have a2b := a2.2
 exact a2
def GTurn.mkS (x : GTurn) (k : Int) : GTurn × Int :=
 let k1 := ((mkL iM) x.Left k).2
 (⟨x.At, x.Fresh, ((mkL iM) x.Left k).1⟩, k1)
def GTurn.wS (x : GTurn) : Nat := (wL one1) x.Left
theorem GTurn.okS : Mok GTurn.mkS GTurn.wS := fun x k r h h1 => by
 unfold GTurn.wS at h1
 have a0 := (Zb6 Z86) x.Left _ (r) h (by omega)
 have a0b := a0.2
 exact a0
def GConf.mk1 (x : GConf) (k : Int) : GConf × Int :=
 let k1 := sc k
 let k2 := sc k1
 let k3 := sc k2
 let k4 := ((mkL iM) x.Weights k3).2
 let k5 := sc k4
 let k6 := sc k5
 let k7 := sc k6
 let k8 := sc k7
 (⟨k, k1, k2, ((mkL iM) x.Weights k3).1, k4, k5, k6, k7⟩, k8)
def GConf.w1 (x : GConf) : Nat := 1 + 1 + 1 + (wL one1) x.Weights + 1 + 1 + 1 + 1
theorem GConf.ok1 : Mok GConf.mk1 GConf.w1 := fun x k r h h1 => by
 unfold GConf.w1 at h1
 have a0 := Zi4 (r := 1 + 1 + (wL one1) x.Weights + 1 + 1 + 1 + 1 + r) h (by omega)
 have a0b := a0.2
 have a1 := Zi4 (r := 1 + (wL one1) x.Weights + 1 + 1 + 1 + 1 + r) a0.1 (by omega)
 have a1b := a1.2
 have a2 := Zi4 (r := (wL one1) x.Weights + 1 + 1 + 1 + 1 + r) a1.1 (by omega)
 have a2b := a2.2
 have a3 := (Zb6 Z86) x.Weights _ (1 + 1 + 1 + 1 + r) a2.1 (by omega)
 have a3b := a3.2
 have a4 := Zi4 (r := 1 + 1 + 1 + r) a3.1 (by omega)
 have a4b := a4.2
 have a5 := Zi4 (r := 1 + 1 + r) a4.1 (by omega)
 have a5b := a5.2
 have a6 := Zi4 (r := 1 + r) a5.1 (by omega)
 have a6b := a6.2
 have a7 := Zi4 (r := r) a6.1 (by omega)
 have a7b := a7.2
 exact a7
def GConf.mkS (x : GConf) (k : Int) : GConf × Int :=
 let k1 := ((mkL iM) x.Weights k).2
 (⟨x.Per, x.Quantum, x.Quota, ((mkL iM) x.Weights k).1, x.Join, x.Long, x.Grace, x.Still⟩, k1)
def GConf.wS (x : GConf) : Nat := (wL one1) x.Weights
theorem GConf.okS : Mok GConf.mkS GConf.wS := fun x k r h h1 => by
 unfold GConf.wS at h1
 have a0 := (Zb6 Z86) x.Weights _ (r) h (by omega)
 have a0b := a0.2
 exact a0
def GOut.mk1 (x : GOut) (k : Int) : GOut × Int :=
 let k1 := sc k
 let k2 := (GEntry.mk1 x.Entry k1).2
 (⟨k, (GEntry.mk1 x.Entry k1).1⟩, k2)
def GOut.w1 (x : GOut) : Nat := 1 + GEntry.w1 x.Entry
theorem GOut.ok1 : Mok GOut.mk1 GOut.w1 := fun x k r h h1 => by
 unfold GOut.w1 at h1
 have a0 := Zi4 (r := GEntry.w1 x.Entry + r) h (by omega)
 have a0b := a0.2
 have a1 := GEntry.ok1 x.Entry _ (r) a0.1 (by omega)
 have a1b := a1.2
 exact a1
def GOut.mkS (x : GOut) (k : Int) : GOut × Int :=
 let k1 := (GEntry.mkS x.Entry k).2
 (⟨x.Gen, (GEntry.mkS x.Entry k).1⟩, k1)
def GOut.wS (x : GOut) : Nat := GEntry.wS x.Entry
theorem GOut.okS : Mok GOut.mkS GOut.wS := fun x k r h h1 => by
 unfold GOut.wS at h1
 have a0 := GEntry.okS x.Entry _ (r) h (by omega)
 have a0b := a0.2
 exact a0
def GHouse.mk1 (x : GHouse) (k : Int) : GHouse × Int :=
 let k1 := (GConf.mk1 x.Conf k).2
 let k2 := sc k1
 let k3 := sc k2
 let k4 := ((mkL GSeat.mk1) x.Seats k3).2
 let k5 := ((mkL (mkL GRow.mk1)) x.Rows k4).2
 let k6 := ((mkL GTurn.mk1) x.Turns k5).2
 let k7 := sc k6
 let k8 := ((mkL GEntry.mk1) x.Root k7).2
 let k9 := ((mkL GOut.mk1) x.Outs k8).2
 (⟨(GConf.mk1 x.Conf k).1, k1, b3 k2, ((mkL GSeat.mk1) x.Seats k3).1, ((mkL (mkL GRow.mk1)) x.Rows k4).1, ((mkL GTurn.mk1) x.Turns k5).1, k6, ((mkL GEntry.mk1) x.Root k7).1, ((mkL GOut.mk1) x.Outs k8).1⟩, k9)
def GHouse.w1 (x : GHouse) : Nat := GConf.w1 x.Conf + 1 + 1 + (wL GSeat.w1) x.Seats + (wL (wL GRow.w1)) x.Rows + (wL GTurn.w1) x.Turns + 1 + (wL GEntry.w1) x.Root + (wL GOut.w1) x.Outs
theorem GHouse.ok1 : Mok GHouse.mk1 GHouse.w1 := fun x k r h h1 => by
 unfold GHouse.w1 at h1
 have a0 := GConf.ok1 x.Conf _ (1 + 1 + (wL GSeat.w1) x.Seats + (wL (wL GRow.w1)) x.Rows + (wL GTurn.w1) x.Turns + 1 + (wL GEntry.w1) x.Root + (wL GOut.w1) x.Outs + r) h (by omega)
 have a0b := a0.2
 have a1 := Zi4 (r := 1 + (wL GSeat.w1) x.Seats + (wL (wL GRow.w1)) x.Rows + (wL GTurn.w1) x.Turns + 1 + (wL GEntry.w1) x.Root + (wL GOut.w1) x.Outs + r) a0.1 (by omega)
 have a1b := a1.2
 have a2 := Zi4 (r := (wL GSeat.w1) x.Seats + (wL (wL GRow.w1)) x.Rows + (wL GTurn.w1) x.Turns + 1 + (wL GEntry.w1) x.Root + (wL GOut.w1) x.Outs + r) a1.1 (by omega)
 have a2b := a2.2
 have a3 := (Zb6 GSeat.ok1) x.Seats _ ((wL (wL GRow.w1)) x.Rows + (wL GTurn.w1) x.Turns + 1 + (wL GEntry.w1) x.Root + (wL GOut.w1) x.Outs + r) a2.1 (by omega)
 have a3b := a3.2
 have a4 := (Zb6 (Zb6 GRow.ok1)) x.Rows _ ((wL GTurn.w1) x.Turns + 1 + (wL GEntry.w1) x.Root + (wL GOut.w1) x.Outs + r) a3.1 (by omega)
 have a4b := a4.2
 have a5 := (Zb6 GTurn.ok1) x.Turns _ (1 + (wL GEntry.w1) x.Root + (wL GOut.w1) x.Outs + r) a4.1 (by omega)
 have a5b := a5.2
 have a6 := Zi4 (r := (wL GEntry.w1) x.Root + (wL GOut.w1) x.Outs + r) a5.1 (by omega)
 have a6b := a6.2
 have a7 := (Zb6 GEntry.ok1) x.Root _ ((wL GOut.w1) x.Outs + r) a6.1 (by omega)
 have a7b := a7.2
 have a8 := (Zb6 GOut.ok1) x.Outs _ (r) a7.1 (by omega)
 have a8b := a8.2
 exact a8
def GHouse.mkS (x : GHouse) (k : Int) : GHouse × Int :=
 let k1 := (GConf.mkS x.Conf k).2
 let k2 := ((mkL GSeat.mk1) x.Seats k1).2
 let k3 := ((mkL (mkL GRow.mk1)) x.Rows k2).2
 let k4 := ((mkL GTurn.mk1) x.Turns k3).2
 let k5 := ((mkL GEntry.mk1) x.Root k4).2
 let k6 := ((mkL GOut.mk1) x.Outs k5).2
 (⟨(GConf.mkS x.Conf k).1, x.Clock, x.Closed, ((mkL GSeat.mk1) x.Seats k1).1, ((mkL (mkL GRow.mk1)) x.Rows k2).1, ((mkL GTurn.mk1) x.Turns k3).1, x.Since, ((mkL GEntry.mk1) x.Root k4).1, ((mkL GOut.mk1) x.Outs k5).1⟩, k6)
def GHouse.wS (x : GHouse) : Nat := GConf.wS x.Conf + (wL GSeat.w1) x.Seats + (wL (wL GRow.w1)) x.Rows + (wL GTurn.w1) x.Turns + (wL GEntry.w1) x.Root + (wL GOut.w1) x.Outs
theorem GHouse.okS : Mok GHouse.mkS GHouse.wS := fun x k r h h1 => by
 unfold GHouse.wS at h1
 have a0 := GConf.okS x.Conf _ ((wL GSeat.w1) x.Seats + (wL (wL GRow.w1)) x.Rows + (wL GTurn.w1) x.Turns + (wL GEntry.w1) x.Root + (wL GOut.w1) x.Outs + r) h (by omega)
 have a0b := a0.2
 have a1 := (Zb6 GSeat.ok1) x.Seats _ ((wL (wL GRow.w1)) x.Rows + (wL GTurn.w1) x.Turns + (wL GEntry.w1) x.Root + (wL GOut.w1) x.Outs + r) a0.1 (by omega)
 have a1b := a1.2
 have a2 := (Zb6 (Zb6 GRow.ok1)) x.Rows _ ((wL GTurn.w1) x.Turns + (wL GEntry.w1) x.Root + (wL GOut.w1) x.Outs + r) a1.1 (by omega)
 have a2b := a2.2
 have a3 := (Zb6 GTurn.ok1) x.Turns _ ((wL GEntry.w1) x.Root + (wL GOut.w1) x.Outs + r) a2.1 (by omega)
 have a3b := a3.2
 have a4 := (Zb6 GEntry.ok1) x.Root _ ((wL GOut.w1) x.Outs + r) a3.1 (by omega)
 have a4b := a4.2
 have a5 := (Zb6 GOut.ok1) x.Outs _ (r) a4.1 (by omega)
 have a5b := a5.2
 exact a5
def GPack.mk1 (x : GPack) (k : Int) : GPack × Int :=
 let k1 := sc k
 let k2 := ((mkL bM) x.Bytes k1).2
 let k3 := sc k2
 (⟨k, ((mkL bM) x.Bytes k1).1, b3 k2⟩, k3)
def GPack.w1 (x : GPack) : Nat := 1 + (wL one1) x.Bytes + 1
theorem GPack.ok1 : Mok GPack.mk1 GPack.w1 := fun x k r h h1 => by
 unfold GPack.w1 at h1
 have a0 := Zi4 (r := (wL one1) x.Bytes + 1 + r) h (by omega)
 have a0b := a0.2
 have a1 := (Zb6 Z17) x.Bytes _ (1 + r) a0.1 (by omega)
 have a1b := a1.2
 have a2 := Zi4 (r := r) a1.1 (by omega)
 have a2b := a2.2
 exact a2
def GPack.mkS (x : GPack) (k : Int) : GPack × Int :=
 let k1 := ((mkL bM) x.Bytes k).2
 (⟨x.To, ((mkL bM) x.Bytes k).1, x.Spoilt⟩, k1)
def GPack.wS (x : GPack) : Nat := (wL one1) x.Bytes
theorem GPack.okS : Mok GPack.mkS GPack.wS := fun x k r h h1 => by
 unfold GPack.wS at h1
 have a0 := (Zb6 Z17) x.Bytes _ (r) h (by omega)
 have a0b := a0.2
 exact a0
def GWorld.mk1 (x : GWorld) (k : Int) : GWorld × Int :=
 let k1 := ((mkL GAgent.mk1) x.Agents k).2
 let k2 := (GHouse.mk1 x.House k1).2
 let k3 := ((mkL GPack.mk1) x.Net k2).2
 (⟨((mkL GAgent.mk1) x.Agents k).1, (GHouse.mk1 x.House k1).1, ((mkL GPack.mk1) x.Net k2).1⟩, k3)
def GWorld.w1 (x : GWorld) : Nat := (wL GAgent.w1) x.Agents + GHouse.w1 x.House + (wL GPack.w1) x.Net
theorem GWorld.ok1 : Mok GWorld.mk1 GWorld.w1 := fun x k r h h1 => by
 unfold GWorld.w1 at h1
 have a0 := (Zb6 GAgent.ok1) x.Agents _ (GHouse.w1 x.House + (wL GPack.w1) x.Net + r) h (by omega)
 have a0b := a0.2
 have a1 := GHouse.ok1 x.House _ ((wL GPack.w1) x.Net + r) a0.1 (by omega)
 have a1b := a1.2
 have a2 := (Zb6 GPack.ok1) x.Net _ (r) a1.1 (by omega)
 have a2b := a2.2
 exact a2
def GWorld.mkS (x : GWorld) (k : Int) : GWorld × Int :=
 let k1 := ((mkL GAgent.mk1) x.Agents k).2
 let k2 := (GHouse.mkS x.House k1).2
 let k3 := ((mkL GPack.mk1) x.Net k2).2
 (⟨((mkL GAgent.mk1) x.Agents k).1, (GHouse.mkS x.House k1).1, ((mkL GPack.mk1) x.Net k2).1⟩, k3)
def GWorld.wS (x : GWorld) : Nat := (wL GAgent.w1) x.Agents + GHouse.wS x.House + (wL GPack.w1) x.Net
theorem GWorld.okS : Mok GWorld.mkS GWorld.wS := fun x k r h h1 => by
 unfold GWorld.wS at h1
 have a0 := (Zb6 GAgent.ok1) x.Agents _ (GHouse.wS x.House + (wL GPack.w1) x.Net + r) h (by omega)
 have a0b := a0.2
 have a1 := GHouse.okS x.House _ ((wL GPack.w1) x.Net + r) a0.1 (by omega)
 have a1b := a1.2
 have a2 := (Zb6 GPack.ok1) x.Net _ (r) a1.1 (by omega)
 have a2b := a2.2
 exact a2
def GDeed.mk1 (x : GDeed) (k : Int) : GDeed × Int :=
 let k1 := sc k
 let k2 := sc k1
 let k3 := sc k2
 let k4 := sc k3
 let k5 := sc k4
 let k6 := ((mkL iM) x.Lst k5).2
 (⟨k, k1, k2, k3, k4, ((mkL iM) x.Lst k5).1⟩, k6)
def GDeed.w1 (x : GDeed) : Nat := 1 + 1 + 1 + 1 + 1 + (wL one1) x.Lst
theorem GDeed.ok1 : Mok GDeed.mk1 GDeed.w1 := fun x k r h h1 => by
 unfold GDeed.w1 at h1
 have a0 := Zi4 (r := 1 + 1 + 1 + 1 + (wL one1) x.Lst + r) h (by omega)
 have a0b := a0.2
 have a1 := Zi4 (r := 1 + 1 + 1 + (wL one1) x.Lst + r) a0.1 (by omega)
 have a1b := a1.2
 have a2 := Zi4 (r := 1 + 1 + (wL one1) x.Lst + r) a1.1 (by omega)
 have a2b := a2.2
 have a3 := Zi4 (r := 1 + (wL one1) x.Lst + r) a2.1 (by omega)
 have a3b := a3.2
 have a4 := Zi4 (r := (wL one1) x.Lst + r) a3.1 (by omega)
 have a4b := a4.2
 have a5 := (Zb6 Z86) x.Lst _ (r) a4.1 (by omega)
 have a5b := a5.2
 exact a5
def GDeed.mkS (x : GDeed) (k : Int) : GDeed × Int :=
 let k1 := ((mkL iM) x.Lst k).2
 (⟨x.Kind, x.A, x.B, x.C, x.D, ((mkL iM) x.Lst k).1⟩, k1)
def GDeed.wS (x : GDeed) : Nat := (wL one1) x.Lst
theorem GDeed.okS : Mok GDeed.mkS GDeed.wS := fun x k r h h1 => by
 unfold GDeed.wS at h1
 have a0 := (Zb6 Z86) x.Lst _ (r) h (by omega)
 have a0b := a0.2
 exact a0
end Go.Wr
namespace Go.Wr
theorem Z87 (x : Int) : (iT x).closed = true := rfl
theorem Z85 (x : UInt8) : (iB x).closed = true := rfl
theorem Z8p (l : List Int) : (ints .y l).closed = true := Z2p Z87 l
theorem GSketch.cl (x : GSketch) : closeds (x.cs .y) = true := by
 simp only [GSketch.cs, closeds, T.closed, Z2p Z87, Z2p Z85, Z2p Z8p, Y4, Y5]
theorem GSketch.cle (x : GSketch) : (GSketch.el .y x).closed = true := GSketch.cl x
theorem GSketch.cll (l : List GSketch) : (GSketch.ls .y l).closed = true := Z2p GSketch.cle l
theorem GSpan.cl (x : GSpan) : closeds (x.cs .y) = true := by
 simp only [GSpan.cs, closeds, T.closed, Z2p Z87, Z2p Z85, Z2p Z8p, Y4, Y5]
theorem GSpan.cle (x : GSpan) : (GSpan.el .y x).closed = true := GSpan.cl x
theorem GSpan.cll (l : List GSpan) : (GSpan.ls .y l).closed = true := Z2p GSpan.cle l
theorem GItem.cl (x : GItem) : closeds (x.cs .y) = true := by
 simp only [GItem.cs, closeds, T.closed, Z2p Z87, Z2p Z85, Z2p Z8p, Y4, Y5]
theorem GItem.cle (x : GItem) : (GItem.el .y x).closed = true := GItem.cl x
theorem GItem.cll (l : List GItem) : (GItem.ls .y l).closed = true := Z2p GItem.cle l
theorem GEntry.cl (x : GEntry) : closeds (x.cs .y) = true := by
 simp only [GEntry.cs, closeds, T.closed, Z2p Z87, Z2p Z85, Z2p Z8p, Y4, Y5, Z2p GSpan.cle]
theorem GEntry.cle (x : GEntry) : (GEntry.el .y x).closed = true := GEntry.cl x
theorem GEntry.cll (l : List GEntry) : (GEntry.ls .y l).closed = true := Z2p GEntry.cle l
theorem GFrame.cl (x : GFrame) : closeds (x.cs .y) = true := by
 simp only [GFrame.cs, closeds, T.closed, Z2p Z87, Z2p Z85, Z2p Z8p, Y4, Y5, Z2p GSpan.cle]
theorem GFrame.cle (x : GFrame) : (GFrame.el .y x).closed = true := GFrame.cl x
theorem GFrame.cll (l : List GFrame) : (GFrame.ls .y l).closed = true := Z2p GFrame.cle l
theorem GAgent.cl (x : GAgent) : closeds (x.cs .y) = true := by
 simp only [GAgent.cs, closeds, T.closed, Z2p Z87, Z2p Z85, Z2p Z8p, Y4, Y5, Z2p GItem.cle, Z2p GSpan.cle]
theorem GAgent.cle (x : GAgent) : (GAgent.el .y x).closed = true := GAgent.cl x
theorem GAgent.cll (l : List GAgent) : (GAgent.ls .y l).closed = true := Z2p GAgent.cle l
theorem GSeat.cl (x : GSeat) : closeds (x.cs .y) = true := by
 simp only [GSeat.cs, closeds, T.closed, Z2p Z87, Z2p Z85, Z2p Z8p, Y4, Y5, Z2p GSpan.cle]
theorem GSeat.cle (x : GSeat) : (GSeat.el .y x).closed = true := GSeat.cl x
theorem GSeat.cll (l : List GSeat) : (GSeat.ls .y l).closed = true := Z2p GSeat.cle l
theorem GRow.cl (x : GRow) : closeds (x.cs .y) = true := by
 simp only [GRow.cs, closeds, T.closed, Z2p Z87, Z2p Z85, Z2p Z8p, Y4, Y5, Z2p GEntry.cle]
theorem GRow.cle (x : GRow) : (GRow.el .y x).closed = true := GRow.cl x
theorem GRow.cll (l : List GRow) : (GRow.ls .y l).closed = true := Z2p GRow.cle l
theorem GTurn.cl (x : GTurn) : closeds (x.cs .y) = true := by
 simp only [GTurn.cs, closeds, T.closed, Z2p Z87, Z2p Z85, Z2p Z8p, Y4, Y5]
theorem GTurn.cle (x : GTurn) : (GTurn.el .y x).closed = true := GTurn.cl x
theorem GTurn.cll (l : List GTurn) : (GTurn.ls .y l).closed = true := Z2p GTurn.cle l
theorem GConf.cl (x : GConf) : closeds (x.cs .y) = true := by
 simp only [GConf.cs, closeds, T.closed, Z2p Z87, Z2p Z85, Z2p Z8p, Y4, Y5]
theorem GConf.cle (x : GConf) : (GConf.el .y x).closed = true := GConf.cl x
theorem GConf.cll (l : List GConf) : (GConf.ls .y l).closed = true := Z2p GConf.cle l
theorem GOut.cl (x : GOut) : closeds (x.cs .y) = true := by
 simp only [GOut.cs, closeds, T.closed, Z2p Z87, Z2p Z85, Z2p Z8p, Y4, Y5, Z2p GSpan.cle]
theorem GOut.cle (x : GOut) : (GOut.el .y x).closed = true := GOut.cl x
theorem GOut.cll (l : List GOut) : (GOut.ls .y l).closed = true := Z2p GOut.cle l
theorem GHouse.cl (x : GHouse) : closeds (x.cs .y) = true := by
 simp only [GHouse.cs, closeds, T.closed, Z2p Z87, Z2p Z85, Z2p Z8p, Y4, Y5, Z2p GEntry.cle, Z2p GOut.cle, Z2p GRow.cll, Z2p GSeat.cle, Z2p GTurn.cle]
theorem GHouse.cle (x : GHouse) : (GHouse.el .y x).closed = true := GHouse.cl x
theorem GHouse.cll (l : List GHouse) : (GHouse.ls .y l).closed = true := Z2p GHouse.cle l
theorem GPack.cl (x : GPack) : closeds (x.cs .y) = true := by
 simp only [GPack.cs, closeds, T.closed, Z2p Z87, Z2p Z85, Z2p Z8p, Y4, Y5]
theorem GPack.cle (x : GPack) : (GPack.el .y x).closed = true := GPack.cl x
theorem GPack.cll (l : List GPack) : (GPack.ls .y l).closed = true := Z2p GPack.cle l
theorem GWorld.cl (x : GWorld) : closeds (x.cs .y) = true := by
 simp only [GWorld.cs, closeds, T.closed, Z2p Z87, Z2p Z85, Z2p Z8p, Y4, Y5, Z2p GAgent.cle, Z2p GEntry.cle, Z2p GOut.cle, Z2p GPack.cle, Z2p GRow.cll, Z2p GSeat.cle, Z2p GTurn.cle]
theorem GWorld.cle (x : GWorld) : (GWorld.el .y x).closed = true := GWorld.cl x
theorem GWorld.cll (l : List GWorld) : (GWorld.ls .y l).closed = true := Z2p GWorld.cle l
theorem GDeed.cl (x : GDeed) : closeds (x.cs .y) = true := by
 simp only [GDeed.cs, closeds, T.closed, Z2p Z87, Z2p Z85, Z2p Z8p, Y4, Y5]
theorem GDeed.cle (x : GDeed) : (GDeed.el .y x).closed = true := GDeed.cl x
theorem GDeed.cll (l : List GDeed) : (GDeed.ls .y l).closed = true := Z2p GDeed.cle l
theorem Zmz {hs : List Hand} {cs : List T} {k : IntKind} {b : Int} (hc : closeds cs = true) (ha : apart hs = true) : callOk hs ⟨[.st cs, .one (.i k b)], []⟩ = true := by
 simp only [callOk, ha, Y17, Y19, RV.closed, hc, RV.good, T.closed, T.loose, Y4, Bool.or_true]
end Go.Wr

