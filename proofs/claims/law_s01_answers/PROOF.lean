import PyProof.Rows.All
import Wide.All
import OpenK.AllK
import Wide.FinOn
import HandS.ForMost
import HandS.Wide
import HandS.Zip
import HandS.Defaults
import HandS.HeadHook2
import KE.LtData
import HandS.Spec
import HandS.Head2
import KE.OsHead
import KE.KStateDown
import KE.OsGo
import HandS.Head0
import HandS.Head1
import HandS.HeadHook1
import HandS.Words
import PySem.Challenge.RW_reportlayout_s01_answers
section
/-! The program's defs as total functions over lists of whole numbers. -/
namespace R
abbrev B := List Int
structure T3 (α β γ : Type) where
  a : α
  b : β
  c : γ
structure T4 (α β γ δ : Type) where
  a : α
  b : β
  c : γ
  d : δ
abbrev Cell := T3 Int Int B
inductive Item where
  | head (level : Int) (t : B)
  | para (t : B)
  | tab (n : Int) (cells : List Cell)
  | plot (h : Int) (co : B)
  | check (p : Int) (t : B)
  | bars (cells : List Cell)
abbrev Stock := List Item
abbrev Lines := List B

/-! ### marks -/
def repeated (byte times : Int) : B := List.replicate times.toNat byte
def isTextByte (n : Int) : Bool := decide (n = 10) || (decide (32 ≤ n) && decide (n ≤ 126))
def isText (l : B) : Bool := decide ((l.length : Int) ≤ 200) && l.all isTextByte
def singleLine (l : B) : B := l.map fun b => if b = 10 then 32 else b
def shortened (row : B) (w : Int) : B := if (row.length : Int) ≤ w then row else row.take (w - 1).toNat ++ [126]
def filledBehind (row : B) (w : Int) : B := row ++ repeated 32 (w - row.length)
def filledBefore (row : B) (w : Int) : B := repeated 32 (w - row.length) ++ row
def partStep (mark : Int) (s : Lines × B) (b : Int) : Lines × B := if b = mark then (s.1 ++ [s.2], []) else (s.1, s.2 ++ [b])
def partsGo (row : B) (mark : Int) : Lines × B := row.foldl (partStep mark) ([], [])
def parts (row : B) (mark : Int) : Lines := (partsGo row mark).1 ++ [(partsGo row mark).2]
def joined : Lines → B
  | [] => []
  | [x] => x
  | x :: y :: r => x ++ 10 :: joined (y :: r)
def solidPlaces (row : B) : B := (row.zipIdx.filter fun p => !decide (p.1 = 32)).map fun p => (p.2 : Int)
def withoutLast (row : B) : B := match (solidPlaces row).getLast? with
  | none => []
  | some k => row.take (k + 1).toNat
def withoutOuter (row : B) : B := match (solidPlaces row).head?, (solidPlaces row).getLast? with
  | some i, some k => (row.drop i.toNat).take ((k + 1).toNat - i.toNat)
  | _, _ => []
def signs (s : String) : B := s.toList.map fun c => (c.toNat : Int)
def decimal (n : Int) : B := signs (toString n)
def signLength (row : B) : Int := if row.take 1 = [45] then 1 else 0
def digitsOf (row : B) : B := row.drop (signLength row).toNat
def isDigit (b : Int) : Bool := decide (48 ≤ b) && decide (b ≤ 57)
def isDecimal (row : B) : Bool :=
  if (digitsOf row).length = 0 ∨ (digitsOf row).all isDigit = false then false
  else !decide ((digitsOf row).getD 0 0 = 48) || decide (row = [48])
def decStep (t b : Int) : Int := t * 10 + b - 48
def decimalValue (row : B) : Int := if signLength row = 1 then -((digitsOf row).foldl decStep 0) else (digitsOf row).foldl decStep 0
def listed (lines : Lines) : B := (lines.length : Int) :: lines.flatMap fun l => (l.length : Int) :: l

/-! ### cells -/
def numberCell (n : Int) : Cell := ⟨0, n, []⟩
def textCell (t : B) : Cell := ⟨1, 0, t⟩
def isNumber (c : Cell) : Bool := decide (c.a = 0)
def escapes (b : Int) : Option Int := if b = 34 then some 34 else if b = 92 then some 92 else if b = 10 then some 110 else if b = 124 then some 112 else if b = 126 then some 116 else none
/-- the cell at the head of a row, and how many numbers it takes -/
def cell1 : B → Option (Nat × Cell)
  | z :: n :: r => if z = 0 then some (2, numberCell n) else if z = 1 then
      (if 0 ≤ n ∧ n ≤ 200 ∧ n.toNat ≤ r.length ∧ isText (r.take n.toNat) = true then some (2 + n.toNat, textCell (r.take n.toNat)) else none) else none
  | _ => none
def cellAt (numbers : B) (at' : Int) : Int × Cell := match cell1 (numbers.drop at'.toNat) with
  | none => (-1, numberCell 0)
  | some (k, c) => (at' + k, c)
/-- the first number sees to an end -/
def decGo : Nat → B → Option (List Cell)
  | _, [] => some []
  | 0, _ :: _ => none
  | f + 1, x :: r => match cell1 (x :: r) with
    | none => none
    | some (k, c) => (decGo f ((x :: r).drop k)).map fun l => c :: l
def decoded (numbers : B) : Bool × List Cell := match decGo numbers.length numbers with
  | none => (false, [])
  | some l => (true, l)
def encCell (c : Cell) : B := if c.a = 0 then [0, c.b] else 1 :: (c.c.length : Int) :: c.c
def encoded (cells : List Cell) : B := cells.flatMap encCell
def isPlain (t : B) : Bool :=
  if t.length = 0 ∨ t.getD 0 0 = 32 ∨ t.getD (t.length - 1) 0 = 32 then false
  else if t.any (fun b => (escapes b).isSome) = true then false
  else !isDecimal t
def quoteByte (b : Int) : B := match escapes b with
  | some e => [92, e]
  | none => [b]
def quoted (t : B) : B := 34 :: t.flatMap quoteByte ++ [34]
def printed (c : Cell) : B := if c.a = 0 then decimal c.b else if isPlain c.c = true then c.c else quoted c.c

/-! ### drawing -/
def lmin : B → Int
  | [] => 0
  | x :: r => r.foldl min x
def lmax : B → Int
  | [] => 0
  | x :: r => r.foldl max x
def scaled (number low high steps : Int) : Int := if high = low then 0 else (number - low) * (steps - 1) / (high - low)
def place (height grid : Int) (xs ys : B) (x y : Int) : Int := scaled y (lmin ys) (lmax ys) height * grid + scaled x (lmin xs) (lmax xs) grid
def countStep (height grid : Int) (xs ys : B) (c : B) (p : Int × Int) : B := c.set (place height grid xs ys p.1 p.2).toNat (c.getD (place height grid xs ys p.1 p.2).toNat 0 + 1)
def counted (height grid : Int) (xs ys : B) : B := (xs.zip ys).foldl (countStep height grid xs ys) (repeated 0 (height * grid))
def pointByte (many : Int) : Int := if many = 0 then 32 else if many = 1 then 42 else if many ≤ 9 then 48 + many else 35
def rowLabel (row height low high : Int) : B := if row = height - 1 then decimal high else if row = 0 then decimal low else []
def plotRow (height grid label : Int) (ys counts : B) (row : Int) : B :=
  withoutLast (filledBefore (rowLabel row height (lmin ys) (lmax ys)) label ++ [124] ++ ((counts.drop (row * grid).toNat).take (((row + 1) * grid).toNat - (row * grid).toNat)).map pointByte)
def plotRows (height grid label : Int) (xs ys : B) : Lines :=
  (List.range height.toNat).map fun (i : Nat) => plotRow height grid label ys (counted height grid xs ys) (height - 1 - i)
def scaleLines (grid label low high width : Int) : Lines :=
  if ((decimal low).length : Int) + (decimal high).length < grid then [repeated 32 (label + 1) ++ decimal low ++ filledBefore (decimal high) (grid - (decimal low).length)]
  else [shortened (repeated 32 (label + 1) ++ decimal low) width, shortened (repeated 32 (label + 1) ++ decimal high) width]
/-- every k-th item from a place on -/
def stride {α : Type} (a k : Nat) (xs : List α) : List α := (List.range ((xs.length - a + (k - 1)) / k)).filterMap fun i => xs[a + i * k]?
def maxI (i j : Int) : Int := if i < j then j else i
def minI (i j : Int) : Int := if j < i then j else i
def plotLabel (ys : B) : Int := maxI (decimal (lmin ys)).length (decimal (lmax ys)).length
def plotLines (height : Int) (co : B) (width : Int) : Lines :=
  let xs := stride 0 2 co
  let ys := stride 1 2 co
  let label := plotLabel ys
  let grid := width - label - 1
  if co.length = 0 then [signs "(no points)"]
  else if grid < 8 then [signs "(too narrow)"]
  else plotRows height grid label xs ys ++ [repeated 32 label ++ [43] ++ repeated 45 grid] ++ scaleLines grid label (lmin xs) (lmax xs) width
def barLength (number room greatest : Int) : Int := if 0 < greatest then number * room / greatest else 0
def barLine (text : B) (number greatest : Int) (sizes : T3 Int Int Int) (width : Int) : B :=
  shortened (filledBehind (shortened text sizes.a) sizes.a ++ [32] ++ filledBehind (repeated 61 (barLength number sizes.b greatest)) sizes.b ++ [32] ++ filledBefore (decimal number) sizes.c) width
def barLines (cells : List Cell) (width : Int) : Lines :=
  let texts := (stride 0 2 cells).map fun c => singleLine c.c
  let numbers := (stride 1 2 cells).map fun c => c.b
  let wide := minI 12 (maxI 1 (lmax (texts.map fun t => (t.length : Int))))
  let digits := lmax (numbers.map fun n => ((decimal n).length : Int))
  let room := maxI 0 (width - wide - digits - 2)
  if cells.length = 0 then [signs "(no bars)"]
  else (texts.zip numbers).map fun p => barLine p.1 p.2 (lmax numbers) ⟨wide, room, digits⟩ width

/-! ### layout -/
def headingLines (level : Int) (text : B) (width : Int) : Lines :=
  if level = 3 then [shortened (signs "# " ++ singleLine text) width]
  else if level = 1 then [shortened (singleLine text) width, repeated 61 (shortened (singleLine text) width).length]
  else [shortened (singleLine text) width, repeated 45 (shortened (singleLine text) width).length]
def checkLines (passed : Int) (text : B) (width : Int) : Lines := [shortened ((if passed = 1 then signs "[ok] " else signs "[no] ") ++ singleLine text) width]
def chunks {α : Type} (l : List α) (size : Int) : List (List α) := (List.range ((l.length + (size.toNat - 1)) / size.toNat)).map fun i => (l.drop (i * size.toNat)).take size.toNat
def wordsOf (part : B) (width : Int) : Lines := (parts part 32).flatMap fun w => chunks w width
def wrapStep (width : Int) (s : Lines × B) (word : B) : Lines × B := if (s.2.length : Int) + 1 + word.length ≤ width then (s.1, s.2 ++ [32] ++ word) else (s.1 ++ [s.2], word)
def wrapped (words : Lines) (width : Int) : Lines := match words with
  | [] => [[]]
  | w :: r => (r.foldl (wrapStep width) ([], w)).1 ++ [(r.foldl (wrapStep width) ([], w)).2]
def paragraphLines (text : B) (width : Int) : Lines := (parts text 10).flatMap fun p => wrapped (wordsOf p width) width

/-! ### tables -/
def rowTotal (columns : Int) (cells : List Cell) : Int := (cells.length : Int) / columns
def rowCells (columns : Int) (cells : List Cell) (at' : Int) : List Cell := (cells.drop (at' * columns).toNat).take (((at' + 1) * columns).toNat - (at' * columns).toNat)
def naturalWidth (columns : Int) (cells : List Cell) (column : Int) : Int := lmax ((stride column.toNat columns.toNat cells).map fun c => ((printed c).length : Int))
def naturalWidths (columns : Int) (cells : List Cell) (many : Int) : B := (List.range many.toNat).map fun (i : Nat) => naturalWidth columns cells i
def visibleTotal (columns width : Int) : Int := minI columns ((width - 1) / 6)
/-- the first place of a number -/
def placeOf (x : Int) : B → Nat
  | [] => 0
  | y :: r => if y = x then 0 else placeOf x r + 1
def narrow1 (ws : B) : B := ws.set (placeOf (lmax ws) ws) (ws.getD (placeOf (lmax ws) ws) 0 - 1)
def times {α : Type} (f : α → α) : Nat → α → α
  | 0, x => x
  | n + 1, x => f (times f n x)
def excess (ws : B) (width : Int) : Int := ws.sum + 3 * ws.length + 1 - width
def narrowed (ws : B) (width : Int) : B := times narrow1 (excess ws width).toNat ws
def fittingWidths (columns : Int) (cells : List Cell) (width : Int) : B := narrowed (naturalWidths columns cells (visibleTotal columns width)) width
def ruler (ws : B) : B := (ws.flatMap fun w => 43 :: repeated 45 (w + 2)) ++ [43]
def filledCell (c : Cell) (w : Int) : B := if isNumber c = true then filledBefore (shortened (printed c) w) w else filledBehind (shortened (printed c) w) w
def tableRow (cells : List Cell) (ws : B) : B := ((cells.zip ws).flatMap fun p => [124, 32] ++ filledCell p.1 p.2 ++ [32]) ++ [124]
def framed (columns : Int) (cells : List Cell) (ws : B) : Lines :=
  [ruler ws, tableRow (rowCells columns cells 0) ws, ruler ws] ++ ((List.range ((rowTotal columns cells) - 1).toNat).map fun (i : Nat) => tableRow (rowCells columns cells (1 + i)) ws) ++ [ruler ws]
def tableLines (columns : Int) (cells : List Cell) (width : Int) : Lines :=
  let ws := fittingWidths columns cells width
  if (ws.length : Int) = columns then framed columns cells ws
  else framed columns cells ws ++ [signs "(+" ++ decimal (columns - ws.length) ++ signs ")"]
def fullText (columns : Int) (cells : List Cell) : B := joined (framed columns cells (naturalWidths columns cells columns))
def listLt : B → B → Bool
  | _, [] => false
  | [], _ :: _ => true
  | x :: r, y :: s => if x = y then listLt r s else decide (x < y)
def cellLt (x y : Cell) : Bool := if x.a = y.a then (if x.b = y.b then listLt x.c y.c else decide (x.b < y.b)) else decide (x.a < y.a)
def staysAhead (earlier later : Cell) (descending : Int) : Bool := if descending = 1 then !cellLt earlier later else !cellLt later earlier
def at0 (l : List Cell) (i : Int) : Cell := l.getD i.toNat (numberCell 0)
def aheadOf (rows : List (List Cell)) (row : List Cell) (column descending : Int) : List (List Cell) := rows.filter fun other => staysAhead (at0 other column) (at0 row column) descending
def inserted (rows : List (List Cell)) (row : List Cell) (column descending : Int) : List (List Cell) :=
  rows.take (aheadOf rows row column descending).length ++ [row] ++ rows.drop (aheadOf rows row column descending).length
def sortStep (columns : Int) (cells : List Cell) (column descending : Int) (rows : List (List Cell)) (i : Nat) : List (List Cell) := inserted rows (rowCells columns cells (1 + i)) column descending
def sortedRowsOf (columns : Int) (cells : List Cell) (column descending : Int) : List (List Cell) := (List.range ((rowTotal columns cells) - 1).toNat).foldl (sortStep columns cells column descending) []
def sortedCells (columns : Int) (cells : List Cell) (column descending : Int) : List Cell := rowCells columns cells 0 ++ (sortedRowsOf columns cells column descending).flatten
def chosenCells (columns : Int) (cells : List Cell) (chosen : B) : List Cell :=
  (List.range (rowTotal columns cells).toNat).flatMap fun (i : Nat) => chosen.map fun c => at0 (rowCells columns cells i) c

def itemLines (it : Item) (width : Int) : Lines := match it with
  | .head l t => headingLines l t width
  | .para t => paragraphLines t width
  | .tab n cs => tableLines n cs width
  | .plot h co => plotLines h co width
  | .check p t => checkLines p t width
  | .bars cs => barLines cs width

/-! ### reading -/
def rowForms (line : B) : Lines := (((parts line 124).drop 1).dropLast).map withoutOuter
def meaning (b : Int) : Int := if b = 110 then 10 else if b = 112 then 124 else if b = 116 then 126 else b
def unqStep (s : B × Bool) (b : Int) : B × Bool := if s.2 = true then (s.1 ++ [meaning b], false) else if b = 92 then (s.1, true) else (s.1 ++ [b], false)
def unquoted (form : B) : B := (((form.drop 1).dropLast).foldl unqStep ([], false)).1
def numberRead (form : B) : Bool × Cell := if 30 < (form.length : Int) - signLength form then (false, numberCell 0) else (true, numberCell (decimalValue form))
def cellText (form : B) : B := if form.take 1 = [34] then unquoted form else form
def cellRead (form : B) : Bool × Cell := if isDecimal form = true then numberRead form else (isText (cellText form), textCell (cellText form))
def cellsReadGo : Lines → Option (List Cell)
  | [] => some []
  | f :: r => match cellRead f with
    | (false, _) => none
    | (true, c) => (cellsReadGo r).map fun l => c :: l
def cellsRead (forms : Lines) : Bool × List Cell := match cellsReadGo forms with
  | none => (false, [])
  | some l => (true, l)
def formsReadGo (columns : Int) : Lines → Option Lines
  | [] => some []
  | l :: r => if ((rowForms l).length : Int) = columns then (formsReadGo columns r).map fun x => rowForms l ++ x else none
def formsRead (columns : Int) (lines : Lines) : Bool × Lines := match formsReadGo columns lines with
  | none => (false, [])
  | some l => (true, l)
def tableRead (text : B) : Int × List Cell :=
  let lines := parts text 10
  let l1 := lines.getD 1 []
  let columns : Int := (rowForms l1).length
  if (lines.length : Int) < 4 ∨ 28 < (lines.length : Int) then (0, [])
  else if columns < 1 ∨ 8 < columns then (0, [])
  else match formsReadGo columns (l1 :: (lines.drop 3).dropLast) with
    | none => (0, [])
    | some forms => match cellsReadGo forms with
      | none => (0, [])
      | some cells => if (cells.take columns.toNat).any isNumber = true then (0, []) else if fullText columns cells = text then (columns, cells) else (0, [])

/-! ### sheets -/
def document (stock : Stock) (width : Int) : Lines := match stock with
  | [] => []
  | x :: r => itemLines x width ++ r.flatMap fun y => [] :: itemLines y width
def kind : Item → Int
  | .head _ _ => 0
  | .para _ => 1
  | .tab _ _ => 2
  | .plot _ _ => 3
  | .check _ _ => 4
  | .bars _ => 5
def divided (kind : Int) (lines : Lines) (height : Int) : List Lines := if kind = 2 then (chunks (lines.drop 3) (height - 3)).map fun c => lines.take 3 ++ c else chunks lines height
def finished (done : List Lines) (current : Lines) : List Lines := if current.length = 0 then done else done ++ [current]
def put (done : List Lines) (current : Lines) (kind : Int) (lines : Lines) (height : Int) : List Lines × Lines :=
  if current.length = 0 ∧ (lines.length : Int) ≤ height then (done, lines)
  else if 0 < current.length ∧ (current.length : Int) + 1 + lines.length ≤ height then (done, current ++ [[]] ++ lines)
  else if (lines.length : Int) ≤ height then (finished done current, lines)
  else (finished done current ++ (divided kind lines height).dropLast, (divided kind lines height).getLastD [])
def pageStep (width height : Int) (s : List Lines × Lines) (it : Item) : List Lines × Lines := put s.1 s.2 (kind it) (itemLines it width) height
def pagesGo (stock : Stock) (width height : Int) : List Lines × Lines := stock.foldl (pageStep width height) ([], [])
def pages (stock : Stock) (width height : Int) : List Lines := finished (pagesGo stock width height).1 (pagesGo stock width height).2

/-! ### desk -/
def big : Int := 1000000000000000000
def refused (code : Int) : Int × Item := (code, .head 0 [])
def newHeading (level : Int) (text : B) : Int × Item := if level < 1 ∨ 3 < level then refused (-2) else if isText text = false then refused (-3) else (0, .head level text)
def newParagraph (text : B) : Int × Item := if isText text = false then refused (-3) else (0, .para text)
def newTable (columns : Int) (numbers : B) : Int × Item :=
  if columns < 1 ∨ 8 < columns then refused (-4)
  else if (decoded numbers).1 = false then refused (-5)
  else if (decoded numbers).2.length = 0 ∨ ¬ (((decoded numbers).2.length : Int) % columns = 0) ∨ 25 * columns < ((decoded numbers).2.length : Int) then refused (-6)
  else if ((decoded numbers).2.take columns.toNat).any isNumber = true then refused (-5)
  else (0, .tab columns (decoded numbers).2)
def newPlot (height : Int) (co : B) : Int × Item :=
  if height < 3 ∨ 40 < height then refused (-7)
  else if ¬ ((co.length : Int) % 2 = 0) ∨ 120 < (co.length : Int) then refused (-8)
  else if co.any (fun n => decide (n ≤ -big) || decide (big ≤ n)) = true then refused (-9)
  else (0, .plot height co)
def newCheck (passed : Int) (text : B) : Int × Item := if ¬ passed = 0 ∧ ¬ passed = 1 then refused (-10) else if isText text = false then refused (-3) else (0, .check passed text)
def newBars (numbers : B) : Int × Item :=
  if (decoded numbers).1 = false then refused (-5)
  else if ¬ (((decoded numbers).2.length : Int) % 2 = 0) ∨ 40 < ((decoded numbers).2.length : Int) then refused (-6)
  else if (stride 0 2 (decoded numbers).2).any isNumber = true ∨ (stride 1 2 (decoded numbers).2).all isNumber = false then refused (-5)
  else if (stride 1 2 (decoded numbers).2).any (fun c => decide (c.b < 0) || decide (big ≤ c.b)) = true then refused (-9)
  else (0, .bars (decoded numbers).2)
def newTableFrom (text : B) : Int × Item := if (tableRead text).1 = 0 then refused (-16) else (0, .tab (tableRead text).1 (tableRead text).2)
def num (numbers : B) (i : Nat) : Int := numbers.getD i 0
def newItem (call : Int) (numbers given : B) : Int × Item :=
  if call = 0 then newHeading (num numbers 0) given
  else if call = 1 then newParagraph given
  else if call = 2 then newTable (num numbers 0) given
  else if call = 3 then newPlot (num numbers 0) given
  else if call = 4 then newCheck (num numbers 0) given
  else if call = 5 then newBars given
  else newTableFrom given
def added (stock : Stock) (call : Int) (numbers given : B) : Stock × B :=
  if 12 ≤ (stock.length : Int) then (stock, [-1])
  else if (newItem call numbers given).1 < 0 then (stock, [(newItem call numbers given).1])
  else (stock ++ [(newItem call numbers given).2], [(stock.length : Int)])
def isMissing (stock : Stock) (index : Int) : Bool := decide (index < 0) || decide ((stock.length : Int) ≤ index)
def isNoWidth (width : Int) : Bool := decide (width < 20) || decide (120 < width)
def itemOf (stock : Stock) (index : Int) : Item := stock.getD index.toNat (.head 0 [])
def tableError (stock : Stock) (index : Int) : Int := if isMissing stock index = true then -11 else if ¬ kind (itemOf stock index) = 2 then -12 else 0
def removed (stock : Stock) (index : Int) : Int × Stock := if isMissing stock index = true then (-11, stock) else (0, stock.take index.toNat ++ stock.drop (index + 1).toNat)
def moved (stock : Stock) (index target : Int) : Int × Stock :=
  if isMissing stock index = true ∨ isMissing stock target = true then (-11, stock)
  else (0, (stock.take index.toNat ++ stock.drop (index + 1).toNat).take target.toNat ++ [itemOf stock index] ++ (stock.take index.toNat ++ stock.drop (index + 1).toNat).drop target.toNat)
def withTable (stock : Stock) (index columns : Int) (cells : List Cell) : Stock := stock.take index.toNat ++ [.tab columns cells] ++ stock.drop (index + 1).toNat
def columnsOf : Item → Int
  | .tab n _ => n
  | _ => 0
def cellsOf : Item → List Cell
  | .tab _ cs => cs
  | _ => []
def sortedRows (stock : Stock) (index column descending : Int) : Int × Stock :=
  if tableError stock index < 0 then (tableError stock index, stock)
  else if column < 0 ∨ columnsOf (itemOf stock index) ≤ column then (-13, stock)
  else if ¬ descending = 0 ∧ ¬ descending = 1 then (-10, stock)
  else (0, withTable stock index (columnsOf (itemOf stock index)) (sortedCells (columnsOf (itemOf stock index)) (cellsOf (itemOf stock index)) column descending))
def selected (stock : Stock) (index : Int) (chosen : B) : Int × Stock :=
  if tableError stock index < 0 then (tableError stock index, stock)
  else if (chosen.length : Int) < 1 ∨ 8 < (chosen.length : Int) then (-4, stock)
  else if chosen.any (fun c => decide (c < 0) || decide (columnsOf (itemOf stock index) ≤ c)) = true then (-13, stock)
  else (0, withTable stock index chosen.length (chosenCells (columnsOf (itemOf stock index)) (cellsOf (itemOf stock index)) chosen))
def changed (stock : Stock) (call : Int) (numbers given : B) : Int × Stock :=
  if call = 6 then removed stock (num numbers 0)
  else if call = 7 then moved stock (num numbers 0) (num numbers 1)
  else if call = 8 then sortedRows stock (num numbers 0) (num numbers 1) (num numbers 2)
  else selected stock (num numbers 0) given
def toldLines (stock : Stock) (index width : Int) : B := if isMissing stock index = true then [-11] else if isNoWidth width = true then [-14] else listed (itemLines (itemOf stock index) width)
def toldDocument (stock : Stock) (width : Int) : B := if isNoWidth width = true then [-14] else listed (document stock width)
def toldPages (stock : Stock) (width height : Int) : B :=
  if isNoWidth width = true then [-14] else if height < 5 ∨ 60 < height then [-15]
  else ((pages stock width height).length : Int) :: (pages stock width height).flatMap listed
def toldWidths (stock : Stock) (index width : Int) : B :=
  if isMissing stock index = true then [-11] else if isNoWidth width = true then [-14] else if ¬ kind (itemOf stock index) = 2 then [-12]
  else ((fittingWidths (columnsOf (itemOf stock index)) (cellsOf (itemOf stock index)) width).length : Int) :: fittingWidths (columnsOf (itemOf stock index)) (cellsOf (itemOf stock index)) width
def toldKinds (stock : Stock) : B := (stock.length : Int) :: stock.map kind
def toldCells (stock : Stock) (index : Int) : B :=
  if tableError stock index < 0 then [tableError stock index]
  else [columnsOf (itemOf stock index), rowTotal (columnsOf (itemOf stock index)) (cellsOf (itemOf stock index)) - 1] ++ encoded (cellsOf (itemOf stock index))
def asked (stock : Stock) (call : Int) (numbers : B) : B :=
  if call = 10 then toldLines stock (num numbers 0) (num numbers 1)
  else if call = 11 then toldDocument stock (num numbers 0)
  else if call = 12 then toldPages stock (num numbers 0) (num numbers 1)
  else if call = 13 then toldWidths stock (num numbers 0) (num numbers 1)
  else if call = 15 then toldKinds stock
  else toldCells stock (num numbers 0)
def performed (stock : Stock) (call : Int) (numbers given : B) : Stock × B :=
  if call ≤ 5 ∨ call = 14 then added stock call numbers given
  else if call ≤ 9 then ((changed stock call numbers given).2, [(changed stock call numbers given).1])
  else (stock, asked stock call numbers)

/-! ### report -/
def arity (call : Int) : Nat := [1, 0, 1, 1, 1, 0, 1, 2, 3, 1, 2, 1, 2, 2, 0, 0, 1].getD call.toNat 0
def withList (call : Int) : Bool := [0, 1, 2, 3, 4, 5, 9, 14].contains call
/-- a call at the head of the rest: its number, its integers, its list, how many numbers it takes -/
def call1 : B → T4 Int B B Nat
  | [] => ⟨0, [], [], 1⟩
  | c :: r => if withList c = true then ⟨c, r.take (arity c), (r.drop (arity c + 1)).take (r.getD (arity c) 0).toNat, arity c + 2 + (r.getD (arity c) 0).toNat⟩ else ⟨c, r.take (arity c), [], arity c + 1⟩
def answersGo : Nat → Stock → B → B
  | _, _, [] => []
  | 0, _, _ :: _ => []
  | f + 1, stock, x :: r =>
    let k := call1 (x :: r)
    let p := performed stock k.a k.b k.c
    (p.2.length : Int) :: p.2 ++ answersGo f p.1 ((x :: r).drop k.d)
def answers (calls : B) : B := answersGo calls.length [] calls
end R
end
section
set_option linter.all false
/-! Marks: the mirror on bytes is the specification. -/
namespace R
def ofB (l : Vanbkh.Bytes) : B := l.map fun c => (c.toNat : Int)
theorem ofB_length (l : Vanbkh.Bytes) : (ofB l).length = l.length := List.length_map _
theorem ofB_nil : ofB [] = [] := rfl
theorem ofB_cons (x : UInt8) (l : Vanbkh.Bytes) : ofB (x :: l) = (x.toNat : Int) :: ofB l := rfl
theorem ofB_append (a b : Vanbkh.Bytes) : ofB (a ++ b) = ofB a ++ ofB b := List.map_append
theorem ofB_take (n : Nat) (l : Vanbkh.Bytes) : ofB (l.take n) = (ofB l).take n := List.map_take
theorem ofB_drop (n : Nat) (l : Vanbkh.Bytes) : ofB (l.drop n) = (ofB l).drop n := List.map_drop
theorem u8_inj {x y : UInt8} (h : (x.toNat : Int) = (y.toNat : Int)) : x = y := UInt8.toNat_inj.mp (by omega)
theorem u8_eq_iff {x y : UInt8} : ((x.toNat : Int) = (y.toNat : Int)) ↔ x = y := ⟨u8_inj, fun h => by rw [h]⟩
theorem ofB_inj : ∀ {a b : Vanbkh.Bytes}, ofB a = ofB b → a = b
  | [], [], _ => rfl
  | [], _ :: _, h => by simp [ofB] at h
  | _ :: _, [], h => by simp [ofB] at h
  | x :: a, y :: b, h => by
    rw [ofB_cons, ofB_cons] at h
    injection h with h1 h2
    rw [u8_inj h1, ofB_inj h2]
theorem ofB_eq_nil {l : Vanbkh.Bytes} : ofB l = [] ↔ l = [] := by cases l <;> simp [ofB]
theorem ofB_replicate (n : Nat) (c : UInt8) : ofB (List.replicate n c) = List.replicate n (c.toNat : Int) := List.map_replicate
theorem repeated_of (c : UInt8) (n : Int) : repeated c.toNat n = ofB (List.replicate n.toNat c) := by rw [ofB_replicate]; rfl
theorem rep32 (n : Int) : repeated 32 n = ofB (Vanbkh.spaces n.toNat) := by unfold Vanbkh.spaces; rw [ofB_replicate]; rfl
theorem ofB_flatMap {α : Type} (l : List α) (f : α → Vanbkh.Bytes) : ofB (l.flatMap f) = l.flatMap fun x => ofB (f x) := by
  unfold ofB
  rw [List.map_flatMap]

theorem shortened_of (l : Vanbkh.Bytes) (w : Int) (h : 1 ≤ w) : shortened (ofB l) w = ofB (Vanbkh.truncate w.toNat l) := by
  unfold shortened Vanbkh.truncate
  rw [ofB_length]
  by_cases c : (l.length : Int) ≤ w
  · rw [if_pos c, if_pos (by omega)]
  · rw [if_neg c, if_neg (by omega), ofB_append, ofB_take, show (w - 1).toNat = w.toNat - 1 by omega]
    rfl
theorem filledBehind_of (l : Vanbkh.Bytes) (w : Int) : filledBehind (ofB l) w = ofB (Vanbkh.padRight w.toNat l) := by
  unfold filledBehind Vanbkh.padRight
  rw [ofB_append, ofB_length, rep32, show (w - (l.length : Int)).toNat = w.toNat - l.length by omega]
theorem filledBefore_of (l : Vanbkh.Bytes) (w : Int) : filledBefore (ofB l) w = ofB (Vanbkh.padLeft w.toNat l) := by
  unfold filledBefore Vanbkh.padLeft
  rw [ofB_append, ofB_length, rep32, show (w - (l.length : Int)).toNat = w.toNat - l.length by omega]
theorem u8_is (c : UInt8) (n : Nat) (h : n < 256) : ((c.toNat : Int) = (n : Int)) ↔ c = UInt8.ofNat n := by
  constructor
  · intro e
    apply UInt8.toNat_inj.mp
    rw [UInt8.toNat_ofNat', Nat.mod_eq_of_lt h]
    omega
  · intro e
    subst e
    rw [UInt8.toNat_ofNat', Nat.mod_eq_of_lt h]
theorem singleLine_of (t : Vanbkh.Bytes) : singleLine (ofB t) = ofB (Vanbkh.singleLine t) := by
  unfold singleLine Vanbkh.singleLine ofB
  rw [List.map_map, List.map_map]
  apply List.map_congr_left
  intro c _
  show (if (c.toNat : Int) = 10 then (32 : Int) else (c.toNat : Int)) = (((if (c == 10) = true then (32 : UInt8) else c)).toNat : Int)
  by_cases h : c = 10
  · subst h; rfl
  · have h' : ¬ ((c.toNat : Int) = 10) := fun e => h ((u8_is c 10 (by decide)).mp e)
    rw [if_neg h', if_neg (by simpa using h)]

/-! ### decimal notation -/
theorem signs_append (a b : String) : signs (a ++ b) = signs a ++ signs b := by
  unfold signs
  rw [String.toList_append, List.map_append]
theorem ascii_append (a b : String) : Vanbkh.ascii (a ++ b) = Vanbkh.ascii a ++ Vanbkh.ascii b := by
  unfold Vanbkh.ascii
  rw [String.toList_append, List.map_append]
theorem signs_ascii (s : String) (h : ∀ c ∈ s.toList, c.toNat < 256) : signs s = ofB (Vanbkh.ascii s) := by
  unfold signs Vanbkh.ascii ofB
  rw [List.map_map]
  apply List.map_congr_left
  intro c hc
  show (c.toNat : Int) = ((UInt8.ofNat c.toNat).toNat : Int)
  rw [UInt8.toNat_ofNat', Nat.mod_eq_of_lt (h c hc)]
end R
end
section
set_option linter.all false
/-! Decimal notation: what it looks like, and reading it back. -/
namespace R
def dig (n : Nat) : Vanbkh.Bytes := (Nat.toDigits 10 n).map fun c => UInt8.ofNat c.toNat
def isDig (c : UInt8) : Bool := decide (48 ≤ c) && decide (c ≤ 57)
theorem char_digit {c : Char} (h : c.isDigit = true) : 48 ≤ c.toNat ∧ c.toNat ≤ 57 := by
  unfold Char.isDigit at h
  simp only [Bool.and_eq_true, decide_eq_true_eq] at h
  obtain ⟨h1, h2⟩ := h
  have a : (48 : UInt32) ≤ c.val := h1
  have b : c.val ≤ (57 : UInt32) := h2
  rw [UInt32.le_iff_toNat_le] at a b
  exact ⟨a, b⟩
theorem digits_mem {n : Nat} {c : Char} (h : c ∈ Nat.toDigits 10 n) : 48 ≤ c.toNat ∧ c.toNat ≤ 57 := char_digit (Nat.isDigit_of_mem_toDigits (by decide) (by decide) h)
theorem u8_of_lt {n : Nat} (h : n < 256) : (UInt8.ofNat n).toNat = n := by rw [UInt8.toNat_ofNat', Nat.mod_eq_of_lt h]
theorem isDig_iff {c : UInt8} : isDig c = true ↔ 48 ≤ c.toNat ∧ c.toNat ≤ 57 := by
  unfold isDig
  rw [Bool.and_eq_true, decide_eq_true_eq, decide_eq_true_eq, UInt8.le_iff_toNat_le, UInt8.le_iff_toNat_le]
  exact Iff.rfl
theorem dig_mem {n : Nat} {c : UInt8} (h : c ∈ dig n) : 48 ≤ c.toNat ∧ c.toNat ≤ 57 := by
  obtain ⟨d, hd, rfl⟩ := List.mem_map.mp h
  have := digits_mem hd
  rw [u8_of_lt (by omega)]
  exact this
theorem dig_all (n : Nat) : (dig n).all isDig = true := List.all_eq_true.mpr fun c h => isDig_iff.mpr (dig_mem h)
theorem dig_ne (n : Nat) : dig n ≠ [] := fun h => by
  have := List.map_eq_nil_iff.mp h
  exact Nat.toDigits_ne_nil this
theorem dig_len (n : Nat) : (dig n).length = (Nat.toDigits 10 n).length := List.length_map _
theorem dig_len_le {n k : Nat} (h : 0 < k) : (dig n).length ≤ k ↔ n < 10 ^ k := by rw [dig_len]; exact Nat.length_toDigits_le_iff (by decide) h
def val8 (l : Vanbkh.Bytes) : Nat := l.foldl (fun n c => 10 * n + (c.toNat - 48)) 0
theorem fold_chars : ∀ (l : List Char) (a : Nat), (∀ c ∈ l, c.toNat < 256) → (l.map fun c => UInt8.ofNat c.toNat).foldl (fun n (c : UInt8) => 10 * n + (c.toNat - 48)) a = Nat.ofDigitChars 10 l a
  | [], a, _ => by rw [Nat.ofDigitChars_nil]; rfl
  | x :: r, a, h => by
    rw [List.map_cons, List.foldl_cons, Nat.ofDigitChars_cons, u8_of_lt (h x (List.mem_cons_self)), fold_chars r _ fun c hc => h c (List.mem_cons_of_mem _ hc)]
    rfl
theorem val8_dig (n : Nat) : val8 (dig n) = n := by
  unfold val8 dig
  rw [fold_chars _ _ fun c h => by have := digits_mem h; omega]
  exact Nat.ofDigitChars_ten_toDigits
theorem dig_step {n : Nat} (h : 10 ≤ n) : dig n = dig (n / 10) ++ dig (n % 10) := by
  unfold dig
  rw [← List.map_append, Nat.toDigits_of_lt_base (n := n % 10) (by omega), ← Nat.toDigits_of_base_le (by decide) h]
theorem dig_small {n : Nat} (h : n < 10) : dig n = [UInt8.ofNat (48 + n)] := by
  unfold dig
  rw [Nat.toDigits_of_lt_base h]
  show [UInt8.ofNat n.digitChar.toNat] = _
  rw [Nat.toNat_digitChar_of_lt_ten h]
theorem dig_zero : dig 0 = [48] := dig_small (by decide)
theorem dig_head : ∀ (n : Nat), 0 < n → (dig n).head? ≠ some 48 := by
  intro n
  induction n using Nat.strongRecOn with
  | ind n ih =>
    intro h
    by_cases c : n < 10
    · rw [dig_small c]
      intro e
      have e' : UInt8.ofNat (48 + n) = 48 := Option.some.inj e
      have := congrArg UInt8.toNat e'
      rw [u8_of_lt (by omega)] at this
      have q : (48 : UInt8).toNat = 48 := rfl
      omega
    · rw [dig_step (by omega)]
      have := ih (n / 10) (by omega) (by omega)
      intro e
      apply this
      cases hd : dig (n / 10) with
      | nil => exact absurd hd (dig_ne _)
      | cons x r => rw [hd] at e; exact e
theorem ascii_repr (n : Nat) : Vanbkh.ascii n.repr = dig n := by
  unfold Vanbkh.ascii dig
  rw [Nat.toList_repr]
theorem decimal_nonneg {z : Int} (h : 0 ≤ z) : Vanbkh.decimal z = dig z.toNat := by
  unfold Vanbkh.decimal
  rw [Int.toString_eq_repr, Int.repr_eq_if, if_pos h, ascii_repr]
theorem decimal_neg {z : Int} (h : z < 0) : Vanbkh.decimal z = 45 :: dig (-z).toNat := by
  unfold Vanbkh.decimal
  rw [Int.toString_eq_repr, Int.repr_eq_if, if_neg (by omega), ascii_append, ascii_repr]
  rfl
theorem decimal_of (z : Int) : decimal z = ofB (Vanbkh.decimal z) := by
  unfold decimal Vanbkh.decimal
  refine signs_ascii _ fun c hc => ?_
  rw [Int.toString_eq_repr, Int.repr_eq_if] at hc
  have nd : ∀ n : Nat, ∀ c ∈ n.repr.toList, c.toNat < 256 := fun n c h => by
    rw [Nat.toList_repr] at h
    have := digits_mem h
    omega
  split at hc
  · exact nd _ c hc
  · rw [String.toList_append] at hc
    rcases List.mem_append.mp hc with h | h
    · have : c = '-' := by simpa using h
      subst this
      decide
    · exact nd _ c h
theorem decimal_length (z : Int) : (decimal z).length = (Vanbkh.decimal z).length := by rw [decimal_of, ofB_length]
theorem decimal_ne (z : Int) : Vanbkh.decimal z ≠ [] := by
  by_cases h : 0 ≤ z
  · rw [decimal_nonneg h]; exact dig_ne _
  · rw [decimal_neg (by omega)]; exact List.cons_ne_nil _ _
theorem decimal_mem {z : Int} {c : UInt8} (h : c ∈ Vanbkh.decimal z) : c = 45 ∨ (48 ≤ c.toNat ∧ c.toNat ≤ 57) := by
  by_cases hz : 0 ≤ z
  · rw [decimal_nonneg hz] at h; exact .inr (dig_mem h)
  · rw [decimal_neg (by omega)] at h
    rcases List.mem_cons.mp h with e | e
    · exact .inl e
    · exact .inr (dig_mem e)
/-! ### reading back -/
theorem parse_dig (n : Nat) : Vanbkh.parseNumber (dig n) = some (n : Int) := by
  cases hd : dig n with
  | nil => exact absurd hd (dig_ne n)
  | cons x r =>
    have hx := dig_mem (n := n) (c := x) (by rw [hd]; exact List.mem_cons_self)
    have hne : ¬ x = 45 := fun e => by subst e; simp at hx
    have hneg : ((x :: r).head? == some 45) = false := by simp [hne]
    have hall : ((x :: r).any fun c => decide (c < 48) || decide (57 < c)) = false := by
      rw [List.any_eq_false]
      intro c hc
      have hc' := dig_mem (n := n) (c := c) (by rw [hd]; exact hc)
      simp only [Bool.or_eq_true, decide_eq_true_eq, UInt8.lt_iff_toNat_lt, not_or]
      have q1 : (48 : UInt8).toNat = 48 := rfl
      have q2 : (57 : UInt8).toNat = 57 := rfl
      omega
    have hz : ((x :: r).head? == some 48 && (false || (x :: r).length != 1)) = false := by
      by_cases h0 : n = 0
      · subst h0
        rw [dig_zero] at hd
        injection hd with e1 e2
        subst e1 e2
        rfl
      · have := dig_head n (by omega)
        rw [hd] at this
        have : ((x :: r).head? == some 48) = false := by simpa using this
        rw [this, Bool.false_and]
    unfold Vanbkh.parseNumber
    simp only [hneg, Bool.false_eq_true, if_false, hall, hz, List.isEmpty_cons, Bool.or_false]
    have v := val8_dig n
    rw [hd] at v
    unfold val8 at v
    rw [v]
theorem parse_neg (n : Nat) (h : 0 < n) : Vanbkh.parseNumber (45 :: dig n) = some (-(n : Int)) := by
  have hneg : ((45 :: dig n).head? == some (45 : UInt8)) = true := by simp
  have hall : ((dig n).any fun c => decide (c < 48) || decide (57 < c)) = false := by
    rw [List.any_eq_false]
    intro c hc
    have hc' := dig_mem (n := n) (c := c) hc
    simp only [Bool.or_eq_true, decide_eq_true_eq, UInt8.lt_iff_toNat_lt, not_or]
    have q1 : (48 : UInt8).toNat = 48 := rfl
    have q2 : (57 : UInt8).toNat = 57 := rfl
    omega
  have hz : ((dig n).head? == some 48) = false := by simpa using dig_head n h
  have he : (dig n).isEmpty = false := by
    cases hd : dig n with
    | nil => exact absurd hd (dig_ne n)
    | cons x r => rfl
  unfold Vanbkh.parseNumber
  simp only [hneg, if_true, List.drop_succ_cons, List.drop_zero, hall, hz, he, Bool.false_and, Bool.or_false, Bool.false_eq_true, if_false]
  have v := val8_dig n
  unfold val8 at v
  rw [v]
theorem parse_decimal (z : Int) : Vanbkh.parseNumber (Vanbkh.decimal z) = some z := by
  by_cases h : 0 ≤ z
  · rw [decimal_nonneg h, parse_dig]
    congr 1
    omega
  · rw [decimal_neg (by omega), parse_neg _ (by omega)]
    congr 1
    omega
/-! ### the mirror's own reading is the specification's -/
theorem signLength_of (t : Vanbkh.Bytes) : signLength (ofB t) = if (t.head? == some 45) = true then 1 else 0 := by
  unfold signLength
  cases t with
  | nil => rfl
  | cons x r =>
    have e : ((ofB (x :: r)).take 1 = [45]) ↔ ((x :: r).head? == some 45) = true := by
      rw [ofB_cons, List.take_succ_cons, List.take_zero]
      constructor
      · intro h
        have h' : (x.toNat : Int) = 45 := by injection h
        have := (u8_is x 45 (by decide)).mp h'
        subst this
        rfl
      · intro h
        have h' : x = 45 := by simpa using h
        subst h'
        rfl
    by_cases c : ((x :: r).head? == some 45) = true
    · rw [if_pos c, if_pos (e.mpr c)]
    · rw [if_neg c, if_neg fun h => c (e.mp h)]
def digs8 (t : Vanbkh.Bytes) : Vanbkh.Bytes := if (t.head? == some 45) = true then t.drop 1 else t
theorem digitsOf_of (t : Vanbkh.Bytes) : digitsOf (ofB t) = ofB (digs8 t) := by
  unfold digitsOf digs8
  rw [signLength_of]
  split
  · rw [ofB_drop]; rfl
  · rfl
theorem isDigit_of (c : UInt8) : isDigit (c.toNat : Int) = isDig c := by
  rw [Bool.eq_iff_iff, isDig_iff]
  unfold isDigit
  rw [Bool.and_eq_true, decide_eq_true_eq, decide_eq_true_eq]
  omega
theorem all_isDigit (l : Vanbkh.Bytes) : (ofB l).all isDigit = l.all isDig := by
  unfold ofB
  rw [List.all_map]
  congr 1
  funext c
  exact isDigit_of c
theorem any_isDig (l : Vanbkh.Bytes) : (l.any fun c => decide (c < 48) || decide (57 < c)) = !l.all isDig := by
  rw [List.not_all_eq_any_not]
  congr 1
  funext c
  unfold isDig
  rw [Bool.not_and]
  congr 1
  · rw [← decide_not]; congr 1; rw [UInt8.not_le]
  · rw [← decide_not]; congr 1; rw [UInt8.not_le]
theorem ofB_eq_48 (t : Vanbkh.Bytes) : (ofB t = [48]) ↔ t = [48] := ⟨fun h => ofB_inj h, fun h => by rw [h]; rfl⟩
theorem isDecimal_of (t : Vanbkh.Bytes) : isDecimal (ofB t) = (Vanbkh.parseNumber t).isSome := by
  unfold isDecimal
  rw [digitsOf_of, ofB_length, all_isDigit]
  unfold Vanbkh.parseNumber
  simp only [any_isDig]
  show _ = (if (digs8 t).isEmpty || !(digs8 t).all isDig || ((digs8 t).head? == some 48 && ((t.head? == some 45) || (digs8 t).length != 1)) then none else _ : Option Int).isSome
  cases hd : digs8 t with
  | nil => simp
  | cons x r =>
    by_cases ha : (x :: r).all isDig = true
    · rw [ha]
      rw [if_neg (by simp)]
      have eg : (ofB (x :: r)).getD 0 0 = (x.toNat : Int) := rfl
      have e1 : decide ((ofB (x :: r)).getD 0 0 = 48) = (x == 48) := by
        rw [eg, Bool.eq_iff_iff, decide_eq_true_eq, beq_iff_eq]
        exact u8_is x 48 (by decide)
      have e2 : decide (ofB t = [48]) = decide (t = [48]) := by
        rw [Bool.eq_iff_iff, decide_eq_true_eq, decide_eq_true_eq]; exact ofB_eq_48 t
      rw [e1, e2]
      simp only [List.isEmpty_cons, Bool.not_true, Bool.or_false, Bool.false_or, List.head?_cons]
      by_cases hx : x = 48
      · subst hx
        simp only [beq_self_eq_true, Bool.not_true, Bool.false_or, Bool.true_and, Option.some_beq_some]
        unfold digs8 at hd
        by_cases hn : (t.head? == some 45) = true
        · rw [hn]
          have : ¬ t = [48] := fun e => by rw [e] at hn; simp at hn
          simp [this]
        · have hn' : (t.head? == some 45) = false := by simpa using hn
          rw [if_neg hn] at hd
          subst hd
          rw [hn']
          cases r with
          | nil => simp
          | cons y s => simp
      · have h1 : (x == 48) = false := by simpa using hx
        have h2 : (some x == some (48 : UInt8)) = false := by simpa using hx
        rw [h1, h2]
        simp
    · have ha' : (x :: r).all isDig = false := by simpa using ha
      rw [ha', if_pos (by simp)]
      simp
theorem decFold : ∀ (l : Vanbkh.Bytes) (a : Nat), l.all isDig = true → (ofB l).foldl decStep (a : Int) = ((l.foldl (fun n (c : UInt8) => 10 * n + (c.toNat - 48)) a : Nat) : Int)
  | [], _, _ => rfl
  | x :: r, a, h => by
    rw [List.all_cons, Bool.and_eq_true] at h
    have hx := isDig_iff.mp h.1
    rw [ofB_cons, List.foldl_cons, List.foldl_cons, ← decFold r _ h.2]
    congr 1
    unfold decStep
    omega
theorem decimalValue_of (t : Vanbkh.Bytes) {z : Int} (h : Vanbkh.parseNumber t = some z) : decimalValue (ofB t) = z := by
  have hs := isDecimal_of t
  rw [h] at hs
  unfold isDecimal at hs
  rw [digitsOf_of, ofB_length, all_isDigit] at hs
  by_cases hc : (digs8 t).length = 0 ∨ (digs8 t).all isDig = false
  · rw [if_pos hc] at hs; cases hs
  · have ha : (digs8 t).all isDig = true := by
      cases q : (digs8 t).all isDig with
      | true => rfl
      | false => exact absurd (.inr q) hc
    unfold decimalValue
    have fold0 : (ofB (digs8 t)).foldl decStep 0 = _ := decFold (digs8 t) 0 ha
    rw [digitsOf_of, fold0, signLength_of]
    unfold Vanbkh.parseNumber at h
    simp only [any_isDig] at h
    have h2 : (if (digs8 t).isEmpty || !(digs8 t).all isDig || ((digs8 t).head? == some 48 && ((t.head? == some 45) || (digs8 t).length != 1)) then none else
      some (if (t.head? == some 45) = true then -(((digs8 t).foldl (fun n (c : UInt8) => 10 * n + (c.toNat - 48)) 0 : Nat) : Int) else (((digs8 t).foldl (fun n (c : UInt8) => 10 * n + (c.toNat - 48)) 0 : Nat) : Int)) : Option Int) = some z := h
    split at h2
    · cases h2
    · injection h2 with h2
      rw [← h2]
      by_cases hn : (t.head? == some 45) = true
      · rw [if_pos hn, if_pos hn, if_pos rfl]
      · rw [if_neg hn, if_neg hn, if_neg (by decide)]
end R
end
section
set_option linter.all false
/-! Splitting, words, wrapping; headings, paragraphs, check marks. -/
namespace R
def splitI (m : Int) : B → Lines
  | [] => [[]]
  | x :: r => if x = m then [] :: splitI m r else match splitI m r with
    | [] => [[x]]
    | p :: ps => (x :: p) :: ps
theorem splitI_ne (m : Int) : ∀ l, splitI m l ≠ []
  | [] => List.cons_ne_nil _ _
  | x :: r => by
    unfold splitI
    split
    · exact List.cons_ne_nil _ _
    · split <;> exact List.cons_ne_nil _ _
theorem parts_fold (m : Int) : ∀ (l : B) (done : Lines) (part : B), (l.foldl (partStep m) (done, part)).1 ++ [(l.foldl (partStep m) (done, part)).2] =
    match splitI m l with
    | [] => done ++ [part]
    | p :: ps => done ++ (part ++ p) :: ps
  | [], done, part => by simp [splitI]
  | x :: r, done, part => by
    rw [List.foldl_cons]
    unfold splitI
    by_cases h : x = m
    · rw [show partStep m (done, part) x = (done ++ [part], []) from if_pos h, if_pos h]
      have := parts_fold m r (done ++ [part]) []
      rw [this]
      cases hs : splitI m r with
      | nil => exact absurd hs (splitI_ne m r)
      | cons p ps => simp
    · rw [show partStep m (done, part) x = (done, part ++ [x]) from if_neg h, if_neg h]
      have := parts_fold m r done (part ++ [x])
      rw [this]
      cases hs : splitI m r with
      | nil => exact absurd hs (splitI_ne m r)
      | cons p ps => simp
theorem parts_split (l : B) (m : Int) : parts l m = splitI m l := by
  unfold parts partsGo
  rw [parts_fold]
  cases hs : splitI m l with
  | nil => exact absurd hs (splitI_ne m l)
  | cons p ps => simp
theorem splitI_of (c : UInt8) : ∀ l : Vanbkh.Bytes, splitI (c.toNat : Int) (ofB l) = (Vanbkh.splitAtByte c l).map ofB
  | [] => rfl
  | x :: r => by
    rw [ofB_cons]
    unfold splitI Vanbkh.splitAtByte
    rw [splitI_of c r]
    by_cases h : x = c
    · subst h
      rw [if_pos rfl]
      cases hs : Vanbkh.splitAtByte x r with
      | nil =>
        exfalso
        have := splitI_ne (x.toNat : Int) (ofB r)
        rw [splitI_of x r, hs] at this
        exact this rfl
      | cons p ps => simp [ofB_nil]
    · have h' : ¬ ((x.toNat : Int) = (c.toNat : Int)) := fun e => h (u8_inj e)
      rw [if_neg h']
      cases hs : Vanbkh.splitAtByte c r with
      | nil => rfl
      | cons p ps =>
        have hb : (x == c) = false := by simpa using h
        simp [hb, ofB_cons]
theorem parts_of (t : Vanbkh.Bytes) (c : UInt8) : parts (ofB t) (c.toNat : Int) = (Vanbkh.splitAtByte c t).map ofB := (parts_split _ _).trans (splitI_of c t)
theorem parts10 (t : Vanbkh.Bytes) : parts (ofB t) 10 = (Vanbkh.splitAtByte 10 t).map ofB := parts_of t 10
theorem parts32 (t : Vanbkh.Bytes) : parts (ofB t) 32 = (Vanbkh.splitAtByte 32 t).map ofB := parts_of t 32

/-! ### chunks -/
theorem chunks_nil {α : Type} (n : Nat) (h : 0 < n) : chunks ([] : List α) (n : Int) = [] := by
  unfold chunks
  simp only [List.length_nil, Int.toNat_natCast]
  rw [show (0 + (n - 1)) / n = 0 from Nat.div_eq_of_lt (by omega)]
  rfl
theorem chunks_one {α : Type} (l : List α) (n : Nat) (h0 : l ≠ []) (h : l.length ≤ n) : chunks l (n : Int) = [l] := by
  unfold chunks
  have hl : 0 < l.length := List.length_pos_iff.mpr h0
  simp only [Int.toNat_natCast]
  rw [show (l.length + (n - 1)) / n = 1 by
    apply Nat.div_eq_of_lt_le
    · omega
    · omega]
  simp [List.range_succ, List.take_of_length_le h]
theorem chunks_cons {α : Type} (l : List α) (n : Nat) (hn : 0 < n) (h : n < l.length) : chunks l (n : Int) = l.take n :: chunks (l.drop n) (n : Int) := by
  unfold chunks
  simp only [Int.toNat_natCast, List.length_drop]
  have e : (l.length + (n - 1)) / n = (l.length - n + (n - 1)) / n + 1 := by
    rw [show l.length + (n - 1) = (l.length - n + (n - 1)) + n by omega, Nat.add_div_right _ hn]
  rw [e, List.range_succ_eq_map, List.map_cons, List.map_map]
  congr 1
  · simp
  · apply List.map_congr_left
    intro i _
    simp only [Function.comp, List.drop_drop]
    congr 2
    rw [Nat.succ_mul]; omega
theorem chunks_word : ∀ (f : Nat) (l : Vanbkh.Bytes) (n : Nat), 0 < n → l ≠ [] → l.length ≤ f → chunks (ofB l) (n : Int) = (Vanbkh.chunks n f l).map ofB
  | 0, l, n, hn, h0, hf => absurd (List.length_eq_zero_iff.mp (by omega)) h0
  | f + 1, l, n, hn, h0, hf => by
    unfold Vanbkh.chunks
    by_cases h : l.length ≤ n
    · rw [if_pos h, chunks_one _ _ (fun e => h0 (ofB_eq_nil.mp e)) (by rw [ofB_length]; exact h)]
      rfl
    · rw [if_neg h, chunks_cons _ _ hn (by rw [ofB_length]; omega), List.map_cons, ← ofB_take, ← ofB_drop]
      congr 1
      refine chunks_word f (l.drop n) n hn ?_ ?_
      · intro e
        have := congrArg List.length e
        rw [List.length_drop, List.length_nil] at this
        omega
      · rw [List.length_drop]; omega
theorem wordsOf_of (t : Vanbkh.Bytes) (w : Nat) (hw : 0 < w) : wordsOf (ofB t) (w : Int) = (Vanbkh.words w t).map ofB := by
  unfold wordsOf Vanbkh.words
  rw [parts32]
  generalize Vanbkh.splitAtByte 32 t = ps
  rw [List.flatMap_map]
  induction ps with
  | nil => rfl
  | cons x r ih =>
    rw [List.flatMap_cons, ih]
    by_cases hx : x = []
    · subst hx
      rw [ofB_nil, chunks_nil _ hw]
      rfl
    · have hx' : (!x.isEmpty) = true := by cases x with
        | nil => exact absurd rfl hx
        | cons _ _ => rfl
      rw [List.filter_cons, if_pos hx', List.flatMap_cons, List.map_append, chunks_word x.length x w hw hx (Nat.le_refl _)]
theorem fill_fold (w : Nat) : ∀ (r : List Vanbkh.Bytes) (done : Lines) (l : Vanbkh.Bytes),
    ((r.map ofB).foldl (wrapStep (w : Int)) (done, ofB l)).1 ++ [((r.map ofB).foldl (wrapStep (w : Int)) (done, ofB l)).2] = done ++ (Vanbkh.fillLines w l r).map ofB
  | [], done, l => by simp [Vanbkh.fillLines]
  | x :: r, done, l => by
    rw [List.map_cons, List.foldl_cons]
    unfold Vanbkh.fillLines
    by_cases h : l.length + 1 + x.length ≤ w
    · rw [show wrapStep (w : Int) (done, ofB l) (ofB x) = (done, ofB l ++ [32] ++ ofB x) from if_pos (by simp only [ofB_length]; omega), if_pos h]
      have e : ofB l ++ [32] ++ ofB x = ofB (l ++ 32 :: x) := by
        rw [ofB_append, ofB_cons, List.append_assoc]; rfl
      rw [e]
      exact fill_fold w r done _
    · rw [show wrapStep (w : Int) (done, ofB l) (ofB x) = (done ++ [ofB l], ofB x) from if_neg (by simp only [ofB_length]; omega), if_neg h]
      rw [fill_fold w r (done ++ [ofB l]) x]
      simp
theorem wrapped_of (w : Nat) (ws : List Vanbkh.Bytes) : wrapped (ws.map ofB) (w : Int) = (match ws with
    | [] => [[]]
    | x :: r => Vanbkh.fillLines w x r).map ofB := by
  cases ws with
  | nil => rfl
  | cons x r =>
    show (List.foldl (wrapStep (w : Int)) ([], ofB x) (r.map ofB)).1 ++ [(List.foldl (wrapStep (w : Int)) ([], ofB x) (r.map ofB)).2] = _
    rw [fill_fold]
    rfl
theorem flatMap_eq {α β : Type} {f g : α → List β} : ∀ {l : List α}, (∀ x ∈ l, f x = g x) → l.flatMap f = l.flatMap g
  | [], _ => rfl
  | x :: r, h => by rw [List.flatMap_cons, List.flatMap_cons, h x List.mem_cons_self, flatMap_eq fun y hy => h y (List.mem_cons_of_mem _ hy)]
theorem paragraphLines_of (t : Vanbkh.Bytes) (w : Nat) (hw : 0 < w) : paragraphLines (ofB t) (w : Int) = (Vanbkh.paragraphLines w t).map ofB := by
  unfold paragraphLines Vanbkh.paragraphLines
  rw [parts10, List.flatMap_map, List.map_flatMap]
  apply flatMap_eq
  intro p _
  rw [wordsOf_of p w hw, wrapped_of]
  rfl
theorem headingLines_of (k : Nat) (hk : 1 ≤ k ∧ k ≤ 3) (t : Vanbkh.Bytes) (w : Nat) (hw : 0 < w) : headingLines (k : Int) (ofB t) (w : Int) = (Vanbkh.headingLines w k t).map ofB := by
  unfold headingLines Vanbkh.headingLines
  rw [singleLine_of, shortened_of _ _ (by omega)]
  have e2 : signs "# " = ofB (Vanbkh.ascii "# ") := by decide
  rw [e2, ← ofB_append, shortened_of _ _ (by omega)]
  simp only [Int.toNat_natCast, ofB_length]
  have h : k = 1 ∨ k = 2 ∨ k = 3 := by omega
  rcases h with rfl | rfl | rfl
  · simp [repeated, ofB_replicate]
  · simp [repeated, ofB_replicate]
  · simp
theorem checkLines_of (p : Bool) (t : Vanbkh.Bytes) (w : Nat) (hw : 0 < w) : checkLines (if p then 1 else 0) (ofB t) (w : Int) = (Vanbkh.checkLines w p t).map ofB := by
  unfold checkLines Vanbkh.checkLines
  have e1 : signs "[ok] " = ofB (Vanbkh.ascii "[ok] ") := by decide
  have e2 : signs "[no] " = ofB (Vanbkh.ascii "[no] ") := by decide
  rw [singleLine_of, e1, e2]
  cases p with
  | true => simp [← ofB_append, shortened_of _ (w : Int) (by omega)]
  | false => simp [← ofB_append, shortened_of _ (w : Int) (by omega)]
end R
end
section
set_option linter.all false
/-! Plots and bar charts. -/
namespace R
theorem stride_nil {α : Type} (a k : Nat) (hk : 0 < k) : stride a k ([] : List α) = [] := by
  unfold stride
  rw [List.length_nil, show (0 - a + (k - 1)) / k = 0 from Nat.div_eq_of_lt (by omega)]
  rfl
theorem stride_row {α : Type} (a k : Nat) (h : a < k) (row rest : List α) (hr : row.length = k) : stride a k (row ++ rest) = row[a]'(by omega) :: stride a k rest := by
  unfold stride
  have e : ((row ++ rest).length - a + (k - 1)) / k = (rest.length - a + (k - 1)) / k + 1 := by
    rw [List.length_append, hr]
    by_cases c : a ≤ rest.length
    · rw [show k + rest.length - a + (k - 1) = (rest.length - a + (k - 1)) + k by omega, Nat.add_div_right _ (by omega)]
    · rw [show rest.length - a + (k - 1) = k - 1 by omega, show (k - 1) / k = 0 from Nat.div_eq_of_lt (by omega)]
      apply Nat.div_eq_of_lt_le
      · omega
      · omega
  rw [e, List.range_succ_eq_map, List.filterMap_cons, List.filterMap_map]
  have e0 : (row ++ rest)[a + 0 * k]? = some (row[a]'(by omega)) := by
    rw [Nat.zero_mul, Nat.add_zero, List.getElem?_append_left (by omega), List.getElem?_eq_getElem]
  rw [e0]
  show _ :: _ = _ :: _
  congr 1
  congr 1
  funext i
  show (row ++ rest)[a + (i + 1) * k]? = rest[a + i * k]?
  rw [List.getElem?_append_right (by rw [Nat.succ_mul]; omega), hr, Nat.succ_mul]
  congr 1
  omega
def flat2 (ps : List (Int × Int)) : B := ps.flatMap fun p => [p.1, p.2]
theorem flat2_cons (p : Int × Int) (r : List (Int × Int)) : flat2 (p :: r) = [p.1, p.2] ++ flat2 r := rfl
theorem stride_xs : ∀ ps : List (Int × Int), stride 0 2 (flat2 ps) = ps.map fun p => p.1
  | [] => stride_nil 0 2 (by decide)
  | p :: r => by rw [flat2_cons, stride_row 0 2 (by decide) [p.1, p.2] _ rfl, stride_xs r]; rfl
theorem stride_ys : ∀ ps : List (Int × Int), stride 1 2 (flat2 ps) = ps.map fun p => p.2
  | [] => stride_nil 1 2 (by decide)
  | p :: r => by rw [flat2_cons, stride_row 1 2 (by decide) [p.1, p.2] _ rfl, stride_ys r]; rfl
theorem flat2_length : ∀ ps : List (Int × Int), (flat2 ps).length = 2 * ps.length
  | [] => rfl
  | p :: r => by rw [flat2_cons, List.length_append, flat2_length r, List.length_cons]; simp; omega

theorem lmin_least (l : B) : lmin l = Vanbkh.least l := by cases l <;> rfl
theorem lmax_greatest (l : B) : lmax l = Vanbkh.greatest l := by cases l <;> rfl
theorem foldl_min_le : ∀ (l : B) (a : Int), l.foldl min a ≤ a ∧ ∀ y ∈ l, l.foldl min a ≤ y
  | [], a => ⟨Int.le_refl _, fun _ h => by cases h⟩
  | x :: r, a => by
    rw [List.foldl_cons]
    obtain ⟨h1, h2⟩ := foldl_min_le r (min a x)
    refine ⟨by omega, fun y hy => ?_⟩
    rcases List.mem_cons.mp hy with e | e
    · subst e; omega
    · exact h2 y e
theorem foldl_max_ge : ∀ (l : B) (a : Int), a ≤ l.foldl max a ∧ ∀ y ∈ l, y ≤ l.foldl max a
  | [], a => ⟨Int.le_refl _, fun _ h => by cases h⟩
  | x :: r, a => by
    rw [List.foldl_cons]
    obtain ⟨h1, h2⟩ := foldl_max_ge r (max a x)
    refine ⟨by omega, fun y hy => ?_⟩
    rcases List.mem_cons.mp hy with e | e
    · subst e; omega
    · exact h2 y e
theorem foldl_max_mem : ∀ (l : B) (a : Int), l.foldl max a = a ∨ l.foldl max a ∈ l
  | [], a => .inl rfl
  | x :: r, a => by
    rw [List.foldl_cons]
    rcases foldl_max_mem r (max a x) with h | h
    · by_cases c : a ≤ x
      · right; rw [h, Int.max_eq_right c]; exact List.mem_cons_self
      · left; rw [h, Int.max_eq_left (by omega)]
    · exact .inr (List.mem_cons_of_mem _ h)
theorem foldl_min_mem : ∀ (l : B) (a : Int), l.foldl min a = a ∨ l.foldl min a ∈ l
  | [], a => .inl rfl
  | x :: r, a => by
    rw [List.foldl_cons]
    rcases foldl_min_mem r (min a x) with h | h
    · by_cases c : x ≤ a
      · right; rw [h, Int.min_eq_right c]; exact List.mem_cons_self
      · left; rw [h, Int.min_eq_left (by omega)]
    · exact .inr (List.mem_cons_of_mem _ h)
theorem lmin_le {l : B} {y : Int} (h : y ∈ l) : lmin l ≤ y := by
  cases l with
  | nil => cases h
  | cons x r =>
    obtain ⟨h1, h2⟩ := foldl_min_le r x
    rcases List.mem_cons.mp h with e | e
    · subst e; exact h1
    · exact h2 y e
theorem le_lmax {l : B} {y : Int} (h : y ∈ l) : y ≤ lmax l := by
  cases l with
  | nil => cases h
  | cons x r =>
    obtain ⟨h1, h2⟩ := foldl_max_ge r x
    rcases List.mem_cons.mp h with e | e
    · subst e; exact h1
    · exact h2 y e
theorem lmax_mem {l : B} (h : l ≠ []) : lmax l ∈ l := by
  cases l with
  | nil => exact absurd rfl h
  | cons x r =>
    rcases foldl_max_mem r x with e | e
    · show List.foldl max x r ∈ _; rw [e]; exact List.mem_cons_self
    · exact List.mem_cons_of_mem _ e
theorem lmin_mem {l : B} (h : l ≠ []) : lmin l ∈ l := by
  cases l with
  | nil => exact absurd rfl h
  | cons x r =>
    rcases foldl_min_mem r x with e | e
    · show List.foldl min x r ∈ _; rw [e]; exact List.mem_cons_self
    · exact List.mem_cons_of_mem _ e
theorem lmax_unique {l : B} {m : Int} (h : m ∈ l) (hm : ∀ y ∈ l, y ≤ m) : m = lmax l := by
  have h1 := le_lmax h
  have h2 := hm _ (lmax_mem (fun e => by rw [e] at h; cases h))
  omega
theorem lmin_unique {l : B} {m : Int} (h : m ∈ l) (hm : ∀ y ∈ l, m ≤ y) : m = lmin l := by
  have h1 := lmin_le h
  have h2 := hm _ (lmin_mem (fun e => by rw [e] at h; cases h))
  omega

/-- a step lies within the steps -/
theorem scaled_bounds {number low high steps : Int} (h1 : low ≤ number) (h2 : number ≤ high) (hs : 1 ≤ steps) : 0 ≤ scaled number low high steps ∧ scaled number low high steps ≤ steps - 1 := by
  unfold scaled
  split
  · omega
  · rename_i hne
    have hd : 0 < high - low := by omega
    constructor
    · exact Int.ediv_nonneg (Int.mul_nonneg (by omega) (by omega)) (by omega)
    · have : (number - low) * (steps - 1) ≤ (high - low) * (steps - 1) := Int.mul_le_mul_of_nonneg_right (by omega) (by omega)
      calc (number - low) * (steps - 1) / (high - low) ≤ (high - low) * (steps - 1) / (high - low) := Int.ediv_le_ediv hd this
        _ = steps - 1 := by rw [Int.mul_comm, Int.mul_ediv_cancel _ (by omega)]
theorem scaled_of {number low high : Int} {steps : Nat} (h1 : low ≤ number) (h2 : number ≤ high) (hs : 1 ≤ steps) : scaled number low high (steps : Int) = (Vanbkh.scale number low high steps : Int) := by
  have hb := scaled_bounds h1 h2 (show (1 : Int) ≤ (steps : Int) by omega)
  unfold Vanbkh.scale
  unfold scaled at hb ⊢
  split
  · rfl
  · rename_i hne
    rw [if_neg hne] at hb
    rw [Int.toNat_of_nonneg hb.1]
theorem scale_lt {number low high : Int} {steps : Nat} (h1 : low ≤ number) (h2 : number ≤ high) (hs : 1 ≤ steps) : Vanbkh.scale number low high steps < steps := by
  have hb := scaled_bounds h1 h2 (show (1 : Int) ≤ (steps : Int) by omega)
  rw [scaled_of h1 h2 hs] at hb
  omega

/-! ### counting -/
def bump (c : B) (k : Nat) : B := c.set k (c.getD k 0 + 1)
theorem bump_length (c : B) (k : Nat) : (bump c k).length = c.length := List.length_set
theorem bump_get (c : B) (k j : Nat) (hj : j < c.length) : (bump c k).getD j 0 = c.getD j 0 + if k = j then 1 else 0 := by
  unfold bump
  rw [List.getD_eq_getElem?_getD, List.getD_eq_getElem?_getD, List.getElem?_set]
  by_cases h : k = j
  · subst h
    simp [hj]
  · simp [h]
theorem bumps_length : ∀ (ks : List Nat) (c : B), (ks.foldl bump c).length = c.length
  | [], _ => rfl
  | k :: r, c => by rw [List.foldl_cons, bumps_length r, bump_length]
theorem bumps_get : ∀ (ks : List Nat) (c : B) (j : Nat), j < c.length → (ks.foldl bump c).getD j 0 = c.getD j 0 + ((ks.filter fun k => k == j).length : Int)
  | [], _, _, _ => by simp
  | k :: r, c, j, hj => by
    rw [List.foldl_cons, bumps_get r (bump c k) j (by rw [bump_length]; exact hj), bump_get c k j hj, List.filter_cons]
    by_cases h : k = j
    · subst h; simp; omega
    · simp [h]
theorem place_unique {g r c r' c' : Nat} (h : c < g) (h' : c' < g) (e : r * g + c = r' * g + c') : r = r' ∧ c = c' := by
  have hr : r = r' := by
    have h1 : (r * g + c) / g = r := by rw [Nat.mul_comm, Nat.mul_add_div (by omega), Nat.div_eq_of_lt h]; omega
    have h2 : (r' * g + c') / g = r' := by rw [Nat.mul_comm, Nat.mul_add_div (by omega), Nat.div_eq_of_lt h']; omega
    rw [← h1, ← h2, e]
  subst hr
  exact ⟨rfl, by omega⟩
/-- where the points are -/
def spots (g h : Nat) (ps : List (Int × Int)) : List (Nat × Nat) := ps.map fun p => (Vanbkh.scale p.1 (Vanbkh.least (ps.map fun p => p.1)) (Vanbkh.greatest (ps.map fun p => p.1)) g, Vanbkh.scale p.2 (Vanbkh.least (ps.map fun p => p.2)) (Vanbkh.greatest (ps.map fun p => p.2)) h)
theorem zip_maps {α β γ : Type} (f : α → β) (g : α → γ) : ∀ l : List α, (l.map f).zip (l.map g) = l.map fun x => (f x, g x)
  | [] => rfl
  | x :: r => by rw [List.map_cons, List.map_cons, List.zip_cons_cons, zip_maps f g r]; rfl
theorem mem_fst {ps : List (Int × Int)} {p : Int × Int} (h : p ∈ ps) : p.1 ∈ ps.map fun p => p.1 := List.mem_map.mpr ⟨p, h, rfl⟩
theorem mem_snd {ps : List (Int × Int)} {p : Int × Int} (h : p ∈ ps) : p.2 ∈ ps.map fun p => p.2 := List.mem_map.mpr ⟨p, h, rfl⟩
theorem place_of (g h : Nat) (hg : 1 ≤ g) (hh : 1 ≤ h) (ps : List (Int × Int)) (p : Int × Int) (hp : p ∈ ps) :
    place (h : Int) (g : Int) (ps.map fun p => p.1) (ps.map fun p => p.2) p.1 p.2 = ((Vanbkh.scale p.2 (Vanbkh.least (ps.map fun p => p.2)) (Vanbkh.greatest (ps.map fun p => p.2)) h * g + Vanbkh.scale p.1 (Vanbkh.least (ps.map fun p => p.1)) (Vanbkh.greatest (ps.map fun p => p.1)) g : Nat) : Int) := by
  unfold place
  rw [scaled_of (lmin_le (mem_snd hp)) (le_lmax (mem_snd hp)) hh, scaled_of (lmin_le (mem_fst hp)) (le_lmax (mem_fst hp)) hg, lmin_least, lmin_least, lmax_greatest, lmax_greatest]
  omega
theorem foldl_eq {α β : Type} {f g : β → α → β} : ∀ {l : List α} {b : β}, (∀ x ∈ l, ∀ b, f b x = g b x) → l.foldl f b = l.foldl g b
  | [], _, _ => rfl
  | x :: r, b, h => by rw [List.foldl_cons, List.foldl_cons, h x List.mem_cons_self, foldl_eq fun y hy => h y (List.mem_cons_of_mem _ hy)]
theorem counted_of (g h : Nat) (hg : 1 ≤ g) (hh : 1 ≤ h) (ps : List (Int × Int)) :
    counted (h : Int) (g : Int) (ps.map fun p => p.1) (ps.map fun p => p.2) = ((spots g h ps).map fun q => q.2 * g + q.1).foldl bump (List.replicate (h * g) 0) := by
  unfold counted
  rw [zip_maps]
  unfold spots
  rw [List.map_map, List.foldl_map, List.foldl_map]
  rw [show repeated 0 ((h : Int) * (g : Int)) = List.replicate (h * g) 0 by unfold repeated; congr 1]
  refine foldl_eq fun p hp b => ?_
  unfold countStep
  rw [place_of g h hg hh ps p hp]
  rfl
theorem counts_at (g h : Nat) (ps : List (Int × Int)) (hq : ∀ q ∈ spots g h ps, q.1 < g) (r c : Nat) (hr : r < h) (hc : c < g) :
    (((spots g h ps).map fun q => q.2 * g + q.1).foldl bump (List.replicate (h * g) 0)).getD (r * g + c) 0 = (((spots g h ps).filter fun q => q == (c, r)).length : Int) := by
  have hj : r * g + c < h * g := by
    calc r * g + c < r * g + g := by omega
      _ = (r + 1) * g := by rw [Nat.succ_mul]
      _ ≤ h * g := Nat.mul_le_mul_right _ hr
  rw [bumps_get _ _ _ (by rw [List.length_replicate]; exact hj)]
  have z : (List.replicate (h * g) (0 : Int)).getD (r * g + c) 0 = 0 := by
    rw [List.getD_eq_getElem?_getD, List.getElem?_replicate]
    split <;> rfl
  rw [z, List.filter_map, List.length_map, Int.zero_add]
  congr 2
  apply List.filter_congr
  intro q hqm
  show (q.2 * g + q.1 == r * g + c) = (q == (c, r))
  rw [Bool.eq_iff_iff, beq_iff_eq, beq_iff_eq]
  constructor
  · intro e
    obtain ⟨e1, e2⟩ := place_unique (hq q hqm) hc e
    exact Prod.ext e2 e1
  · intro e
    rw [e]
theorem slice_row (l : B) (n g : Nat) (h : n + g ≤ l.length) : (l.drop n).take g = (List.range g).map fun c => l.getD (n + c) 0 := by
  apply List.ext_getElem
  · rw [List.length_take, List.length_drop, List.length_map, List.length_range]; omega
  · intro i h1 h2
    rw [List.getElem_take, List.getElem_drop, List.getElem_map, List.getElem_range, List.getD_eq_getElem?_getD, List.getElem?_eq_getElem]
    rfl
theorem pointByte_of (n : Nat) : pointByte (n : Int) = ((Vanbkh.pointMark n).toNat : Int) := by
  unfold pointByte Vanbkh.pointMark
  by_cases h0 : n = 0
  · subst h0; rfl
  · by_cases h1 : n = 1
    · subst h1; rfl
    · have b0 : (n == 0) = false := by simpa using h0
      have b1 : (n == 1) = false := by simpa using h1
      rw [if_neg (by omega), if_neg (by omega), b0, b1]
      simp only [Bool.false_eq_true, if_false]
      by_cases h9 : n ≤ 9
      · rw [if_pos (by omega), if_pos h9, u8_of_lt (by omega)]; omega
      · rw [if_neg (by omega), if_neg h9]; rfl

/-! ### the spaces at the end -/
theorem solid_append (l : B) (x : Int) : solidPlaces (l ++ [x]) = solidPlaces l ++ if x = 32 then [] else [(l.length : Int)] := by
  unfold solidPlaces
  rw [List.zipIdx_append, List.filter_append, List.map_append]
  congr 1
  by_cases h : x = 32
  · simp [h]
  · simp [h]
theorem solid_lt (l : B) : ∀ k ∈ solidPlaces l, 0 ≤ k ∧ k < l.length := by
  intro k hk
  unfold solidPlaces at hk
  obtain ⟨p, hp, rfl⟩ := List.mem_map.mp hk
  have hm := (List.mem_filter.mp hp).1
  have := List.mem_zipIdx hm
  simp at this
  omega
theorem withoutLast_space (l : B) : withoutLast (l ++ [32]) = withoutLast l := by
  unfold withoutLast
  rw [solid_append, if_pos rfl, List.append_nil]
  cases h : (solidPlaces l).getLast? with
  | none => rfl
  | some k =>
    have := solid_lt l k (List.mem_of_getLast? h)
    show (l ++ [32]).take (k + 1).toNat = l.take (k + 1).toNat
    rw [List.take_append_of_le_length (by omega)]
theorem withoutLast_solid (l : B) (x : Int) (h : ¬ x = 32) : withoutLast (l ++ [x]) = l ++ [x] := by
  unfold withoutLast
  rw [solid_append, if_neg h, List.getLast?_concat]
  show (l ++ [x]).take ((l.length : Int) + 1).toNat = _
  rw [List.take_of_length_le (by rw [List.length_append, List.length_singleton]; omega)]
theorem trimEnd_space (l : Vanbkh.Bytes) : Vanbkh.trimEnd (l ++ [32]) = Vanbkh.trimEnd l := by
  unfold Vanbkh.trimEnd
  rw [List.reverse_append, List.reverse_singleton, List.singleton_append, List.dropWhile_cons]
  rfl
theorem trimEnd_solid (l : Vanbkh.Bytes) (x : UInt8) (h : ¬ x = 32) : Vanbkh.trimEnd (l ++ [x]) = l ++ [x] := by
  unfold Vanbkh.trimEnd
  rw [List.reverse_append, List.reverse_singleton, List.singleton_append, List.dropWhile_cons]
  have : (x == 32) = false := by simpa using h
  rw [this]
  simp
theorem withoutLast_rev : ∀ r : Vanbkh.Bytes, withoutLast (ofB r.reverse) = ofB (Vanbkh.trimEnd r.reverse)
  | [] => rfl
  | x :: r => by
    rw [List.reverse_cons, ofB_append]
    by_cases h : x = 32
    · subst h
      rw [trimEnd_space]
      show withoutLast (ofB r.reverse ++ [32]) = _
      rw [withoutLast_space, withoutLast_rev r]
    · rw [trimEnd_solid _ _ h]
      show withoutLast (ofB r.reverse ++ [(x.toNat : Int)]) = _
      rw [withoutLast_solid _ _ (fun e => h ((u8_is x 32 (by decide)).mp e)), ofB_append]
      rfl
theorem withoutLast_of (l : Vanbkh.Bytes) : withoutLast (ofB l) = ofB (Vanbkh.trimEnd l) := by
  have := withoutLast_rev l.reverse
  rw [List.reverse_reverse] at this
  exact this

/-! ### plots -/
theorem rev_range_map {α : Type} (h : Nat) (f : Nat → α) (g : Int → α) (e : ∀ r, r < h → g (r : Int) = f r) : ((List.range h).map fun (i : Nat) => g ((h : Int) - 1 - i)) = (List.range h).reverse.map f := by
  apply List.ext_getElem
  · simp
  · intro i h1 h2
    simp only [List.getElem_map, List.getElem_reverse, List.getElem_range, List.length_range]
    rw [← e]
    · congr 1; simp at h1; omega
    · simp at h1; omega
theorem spots_lt (g h : Nat) (hg : 1 ≤ g) (ps : List (Int × Int)) : ∀ q ∈ spots g h ps, q.1 < g := by
  intro q hq
  unfold spots at hq
  obtain ⟨p, hp, rfl⟩ := List.mem_map.mp hq
  show Vanbkh.scale _ _ _ _ < g
  rw [← lmin_least, ← lmax_greatest]
  exact scale_lt (lmin_le (mem_fst hp)) (le_lmax (mem_fst hp)) hg
def lineAt (g h label : Nat) (ps : List (Int × Int)) (r : Nat) : Vanbkh.Bytes :=
  Vanbkh.trimEnd (Vanbkh.padLeft label (if r + 1 == h then Vanbkh.decimal (Vanbkh.greatest (ps.map fun p => p.2)) else if r == 0 then Vanbkh.decimal (Vanbkh.least (ps.map fun p => p.2)) else []) ++ [124] ++ (List.range g).map fun c => Vanbkh.pointMark ((spots g h ps).filter fun q => q == (c, r)).length)
theorem plotRow_of (g h label : Nat) (hg : 1 ≤ g) (hh : 1 ≤ h) (ps : List (Int × Int)) (r : Nat) (hr : r < h) :
    plotRow (h : Int) (g : Int) (label : Int) (ps.map fun p => p.2) (counted (h : Int) (g : Int) (ps.map fun p => p.1) (ps.map fun p => p.2)) (r : Int) =
      ofB (lineAt g h label ps r) := by
  unfold plotRow lineAt
  rw [← withoutLast_of, ofB_append, ofB_append, counted_of g h hg hh]
  congr 1
  have e1 : rowLabel (r : Int) (h : Int) (lmin (ps.map fun p => p.2)) (lmax (ps.map fun p => p.2)) = ofB (if r + 1 == h then Vanbkh.decimal (Vanbkh.greatest (ps.map fun p => p.2)) else if r == 0 then Vanbkh.decimal (Vanbkh.least (ps.map fun p => p.2)) else []) := by
    unfold rowLabel
    rw [decimal_of, decimal_of, lmin_least, lmax_greatest]
    by_cases c1 : r + 1 = h
    · rw [if_pos (show (r : Int) = (h : Int) - 1 by omega), if_pos (show (r + 1 == h) = true from beq_iff_eq.mpr c1)]
    · rw [if_neg (show ¬ (r : Int) = (h : Int) - 1 by omega), if_neg (show ¬ (r + 1 == h) = true from fun e => c1 (beq_iff_eq.mp e))]
      by_cases c2 : r = 0
      · rw [if_pos (show (r : Int) = 0 by omega), if_pos (show (r == 0) = true from beq_iff_eq.mpr c2)]
      · rw [if_neg (show ¬ (r : Int) = 0 by omega), if_neg (show ¬ (r == 0) = true from fun e => c2 (beq_iff_eq.mp e))]; rfl
  rw [e1, filledBefore_of]
  congr 1
  have e2 : (((r : Int) * (g : Int)).toNat) = r * g := by omega
  have e3 : ((((r : Int) + 1) * (g : Int)).toNat) - r * g = g := by
    have : ((r : Int) + 1) * (g : Int) = ((r * g + g : Nat) : Int) := by rw [Int.add_mul]; omega
    rw [this]; omega
  rw [e2, e3, slice_row _ _ _ (by
    rw [bumps_length, List.length_replicate]
    calc r * g + g = (r + 1) * g := by rw [Nat.succ_mul]
      _ ≤ h * g := Nat.mul_le_mul_right _ hr)]
  unfold ofB
  rw [List.map_map, List.map_map]
  apply List.map_congr_left
  intro c hc
  show pointByte (List.getD _ (r * g + c) 0) = ((Vanbkh.pointMark _).toNat : Int)
  rw [counts_at g h ps (spots_lt g h hg ps) r c hr (List.mem_range.mp hc), pointByte_of]
theorem plotRows_of (g h label : Nat) (hg : 1 ≤ g) (hh : 1 ≤ h) (ps : List (Int × Int)) :
    plotRows (h : Int) (g : Int) (label : Int) (ps.map fun p => p.1) (ps.map fun p => p.2) = (List.range h).reverse.map fun r => ofB (lineAt g h label ps r) := by
  unfold plotRows
  rw [Int.toNat_natCast]
  have e : ∀ r, r < h → plotRow (h : Int) (g : Int) (label : Int) (ps.map fun p => p.2) (counted (h : Int) (g : Int) (ps.map fun p => p.1) (ps.map fun p => p.2)) (r : Int) = ofB (lineAt g h label ps r) := fun r hr => plotRow_of g h label hg hh ps r hr
  generalize counted (h : Int) (g : Int) (ps.map fun p => p.1) (ps.map fun p => p.2) = cs at e ⊢
  revert e
  generalize (ps.map fun p => p.2) = ys
  intro e
  exact rev_range_map h (fun r => ofB (lineAt g h label ps r)) (fun r => plotRow (h : Int) (g : Int) (label : Int) ys cs r) e
theorem maxI_nat (a b : Nat) : maxI (a : Int) (b : Int) = ((max a b : Nat) : Int) := by
  unfold maxI
  split <;> omega
theorem minI_nat (a b : Nat) : minI (a : Int) (b : Int) = ((min a b : Nat) : Int) := by
  unfold minI
  split <;> omega
theorem plotLines_of (h : Nat) (hh : 1 ≤ h) (ps : List (Int × Int)) (w : Nat) (hw : 1 ≤ w) : plotLines (h : Int) (flat2 ps) (w : Int) = (Vanbkh.plotLines w h ps).map ofB := by
  unfold plotLines Vanbkh.plotLines
  simp only [stride_xs, stride_ys, flat2_length]
  by_cases hp : ps = []
  · subst hp
    rw [if_pos (show 2 * ([] : List (Int × Int)).length = 0 from rfl), if_pos (show ([] : List (Int × Int)).isEmpty = true from rfl)]
    decide
  · have hl : 0 < ps.length := List.length_pos_iff.mpr hp
    have he : ps.isEmpty = false := by cases ps with
      | nil => exact absurd rfl hp
      | cons _ _ => rfl
    rw [if_neg (show ¬ 2 * ps.length = 0 by omega), if_neg (show ¬ ps.isEmpty = true by rw [he]; decide)]
    have el : plotLabel (ps.map fun p => p.2) = ((max (Vanbkh.decimal (Vanbkh.least (ps.map fun p => p.2))).length (Vanbkh.decimal (Vanbkh.greatest (ps.map fun p => p.2))).length : Nat) : Int) := by
      unfold plotLabel
      rw [decimal_length, decimal_length, maxI_nat, lmin_least, lmax_greatest]
    rw [el]
    generalize hL : max (Vanbkh.decimal (Vanbkh.least (ps.map fun p => p.2))).length (Vanbkh.decimal (Vanbkh.greatest (ps.map fun p => p.2))).length = L
    by_cases hn : w < L + 9
    · rw [if_pos (show (w : Int) - (L : Int) - 1 < 8 by omega), if_pos hn]
      decide
    · rw [if_neg (show ¬ (w : Int) - (L : Int) - 1 < 8 by omega), if_neg hn]
      have eg : (w : Int) - (L : Int) - 1 = ((w - L - 1 : Nat) : Int) := by omega
      rw [eg]
      generalize hG : w - L - 1 = g
      have hg : 1 ≤ g := by omega
      rw [List.map_append, List.map_append]
      congr 1
      · congr 1
        · rw [plotRows_of g h L hg hh ps, List.map_map]
          rfl
        · show [_] = [_]
          rw [ofB_append, ofB_append, rep32]
          congr 1
          unfold repeated
          rw [ofB_replicate, Int.toNat_natCast]
          rfl
      · unfold scaleLines
        simp only [decimal_of, ofB_length, lmin_least, lmax_greatest]
        generalize Vanbkh.decimal (Vanbkh.least (ps.map fun p => p.1)) = dx0
        generalize Vanbkh.decimal (Vanbkh.greatest (ps.map fun p => p.1)) = dx1
        rw [rep32, show ((L : Int) + 1).toNat = L + 1 by omega]
        by_cases c : dx0.length + dx1.length < g
        · rw [if_pos (show (dx0.length : Int) + (dx1.length : Int) < (g : Int) by omega), if_pos c]
          show [_] = [_]
          rw [filledBefore_of]
          unfold Vanbkh.padLeft
          rw [ofB_append, ofB_append, ofB_append, ofB_append]
          rw [show ((g : Int) - (dx0.length : Int)).toNat - dx1.length = g - dx0.length - dx1.length by omega]
          simp only [List.append_assoc]
        · rw [if_neg (show ¬ (dx0.length : Int) + (dx1.length : Int) < (g : Int) by omega), if_neg c, ← ofB_append, ← ofB_append, shortened_of _ _ (by omega), shortened_of _ _ (by omega), Int.toNat_natCast]
          rfl

/-! ### bar charts -/
def flatBars (l : List (Vanbkh.Bytes × Int)) : List Cell := l.flatMap fun x => [textCell (ofB x.1), numberCell x.2]
theorem flatBars_cons (x : Vanbkh.Bytes × Int) (r : List (Vanbkh.Bytes × Int)) : flatBars (x :: r) = [textCell (ofB x.1), numberCell x.2] ++ flatBars r := rfl
theorem stride_texts : ∀ l : List (Vanbkh.Bytes × Int), stride 0 2 (flatBars l) = l.map fun x => textCell (ofB x.1)
  | [] => stride_nil 0 2 (by decide)
  | p :: r => by rw [flatBars_cons, stride_row 0 2 (by decide) _ _ rfl, stride_texts r]; rfl
theorem stride_nums : ∀ l : List (Vanbkh.Bytes × Int), stride 1 2 (flatBars l) = l.map fun x => numberCell x.2
  | [] => stride_nil 1 2 (by decide)
  | p :: r => by rw [flatBars_cons, stride_row 1 2 (by decide) _ _ rfl, stride_nums r]; rfl
theorem flatBars_length : ∀ l : List (Vanbkh.Bytes × Int), (flatBars l).length = 2 * l.length
  | [] => rfl
  | p :: r => by rw [flatBars_cons, List.length_append, flatBars_length r, List.length_cons]; simp; omega
theorem foldl_max_nat : ∀ (l : List Nat) (a : Nat), (l.map fun n : Nat => (n : Int)).foldl max (a : Int) = ((l.foldl max a : Nat) : Int)
  | [], _ => rfl
  | x :: r, a => by
    rw [List.map_cons, List.foldl_cons, List.foldl_cons, show max (a : Int) (x : Int) = ((max a x : Nat) : Int) by omega]
    exact foldl_max_nat r _
theorem lmax_nat (l : List Nat) : lmax (l.map fun n : Nat => (n : Int)) = (Vanbkh.maximum l : Int) := by
  cases l with
  | nil => rfl
  | cons x r =>
    show (r.map fun n : Nat => (n : Int)).foldl max (x : Int) = ((List.foldl max (max 0 x) r : Nat) : Int)
    rw [foldl_max_nat, Nat.zero_max]
theorem barLines_of (l : List (Vanbkh.Bytes × Int)) (hl : ∀ x ∈ l, 0 ≤ x.2) (w : Nat) (hw : 1 ≤ w) : barLines (flatBars l) (w : Int) = (Vanbkh.barLines w l).map ofB := by
  unfold barLines Vanbkh.barLines
  simp only [stride_texts, stride_nums, flatBars_length, List.map_map]
  by_cases hp : l = []
  · subst hp
    rw [if_pos (show 2 * ([] : List (Vanbkh.Bytes × Int)).length = 0 from rfl), if_pos (show ([] : List (Vanbkh.Bytes × Int)).isEmpty = true from rfl)]
    decide
  · have hlen : 0 < l.length := List.length_pos_iff.mpr hp
    have he : l.isEmpty = false := by cases l with
      | nil => exact absurd rfl hp
      | cons _ _ => rfl
    rw [if_neg (show ¬ 2 * l.length = 0 by omega), if_neg (show ¬ l.isEmpty = true by rw [he]; decide), zip_maps, List.map_map, List.map_map]
    have eT : lmax (l.map ((fun t : B => (t.length : Int)) ∘ (fun c : Cell => singleLine c.c) ∘ fun x : Vanbkh.Bytes × Int => textCell (ofB x.1))) = (Vanbkh.maximum (l.map fun x => (Vanbkh.singleLine x.1).length) : Int) := by
      rw [← lmax_nat, List.map_map]
      congr 1
      apply List.map_congr_left
      intro x _
      show ((singleLine (ofB x.1)).length : Int) = _
      rw [singleLine_of, ofB_length]
      rfl
    have eN : lmax (l.map ((fun n : Int => ((decimal n).length : Int)) ∘ (fun c : Cell => c.b) ∘ fun x : Vanbkh.Bytes × Int => numberCell x.2)) = (Vanbkh.maximum (l.map fun x => (Vanbkh.decimal x.2).length) : Int) := by
      rw [← lmax_nat, List.map_map]
      congr 1
      apply List.map_congr_left
      intro x _
      show ((decimal x.2).length : Int) = _
      rw [decimal_length]
      rfl
    rw [eT, eN]
    generalize Vanbkh.maximum (l.map fun x => (Vanbkh.singleLine x.1).length) = T
    generalize Vanbkh.maximum (l.map fun x => (Vanbkh.decimal x.2).length) = N
    have e1 : minI 12 (maxI 1 (T : Int)) = ((max 1 (min 12 T) : Nat) : Int) := by
      rw [show (1 : Int) = ((1 : Nat) : Int) from rfl, maxI_nat, show (12 : Int) = ((12 : Nat) : Int) from rfl, minI_nat]
      congr 1
      omega
    rw [e1]
    generalize hTT : max 1 (min 12 T) = T'
    have e2 : maxI 0 ((w : Int) - (T' : Int) - (N : Int) - 2) = ((w - T' - N - 2 : Nat) : Int) := by
      unfold maxI
      split <;> omega
    rw [e2]
    generalize w - T' - N - 2 = room
    have e3 : (l.map ((fun c : Cell => c.b) ∘ fun x : Vanbkh.Bytes × Int => numberCell x.2)) = l.map fun x => x.2 := rfl
    rw [e3, lmax_greatest]
    have hm : 0 ≤ Vanbkh.greatest (l.map fun x => x.2) := by
      rw [← lmax_greatest]
      obtain ⟨x, hx, e⟩ := List.mem_map.mp (lmax_mem (l := l.map fun x => x.2) (by simpa using hp))
      rw [← e]
      exact hl x hx
    generalize Vanbkh.greatest (l.map fun x => x.2) = m at hm
    apply List.map_congr_left
    intro x hx
    have hT1 : 1 ≤ T' := by omega
    show shortened (filledBehind (shortened (singleLine (ofB x.1)) (T' : Int)) (T' : Int) ++ [32] ++ filledBehind (repeated 61 (barLength x.2 (room : Int) m)) (room : Int) ++ [32] ++ filledBefore (decimal x.2) (N : Int)) (w : Int) =
      ofB (Vanbkh.truncate w (Vanbkh.padRight T' (Vanbkh.truncate T' (Vanbkh.singleLine x.1)) ++ [32] ++ Vanbkh.padRight room (List.replicate (if m = 0 then 0 else (x.2 * (room : Int) / m).toNat) 61) ++ [32] ++ Vanbkh.padLeft N (Vanbkh.decimal x.2)))
    rw [singleLine_of]
    rw [shortened_of _ (T' : Int) (by omega), filledBehind_of, decimal_of, filledBefore_of]
    have e4 : repeated 61 (barLength x.2 (room : Int) m) = ofB (List.replicate (if m = 0 then 0 else (x.2 * (room : Int) / m).toNat) 61) := by
      unfold repeated barLength
      rw [ofB_replicate]
      by_cases h0 : m = 0
      · rw [if_neg (show ¬ 0 < m by omega), if_pos h0]; rfl
      · rw [if_pos (show 0 < m by omega), if_neg h0]; rfl
    rw [e4, filledBehind_of]
    simp only [Int.toNat_natCast]
    have e5 : ([32] : B) = ofB [32] := rfl
    rw [e5, ← ofB_append, ← ofB_append, ← ofB_append, ← ofB_append, shortened_of _ _ (by omega), Int.toNat_natCast]
end R
end
section
set_option linter.all false
/-! Lengths and bounds of the mirror's values. -/
namespace R
theorem partsGo_snoc (l : B) (m b : Int) : partsGo (l ++ [b]) m = partStep m (partsGo l m) b := by
  unfold partsGo
  rw [List.foldl_append]
  rfl
theorem partStep_len (m : Int) (s : Lines × B) (b : Int) : (partStep m s b).1.length + (partStep m s b).2.length ≤ s.1.length + s.2.length + 1 := by
  unfold partStep
  split
  · simp only [List.length_append, List.length_singleton, List.length_nil]
    omega
  · simp only [List.length_append, List.length_singleton]
    omega
theorem partsFold_len (m : Int) : ∀ (l : B) (s : Lines × B), (l.foldl (partStep m) s).1.length + (l.foldl (partStep m) s).2.length ≤ s.1.length + s.2.length + l.length
  | [], s => by simp
  | x :: r, s => by
    rw [List.foldl_cons, List.length_cons]
    have h1 := partsFold_len m r (partStep m s x)
    have h2 := partStep_len m s x
    omega
theorem partsGo_len (l : B) (m : Int) : (partsGo l m).1.length + (partsGo l m).2.length ≤ l.length := by
  have := partsFold_len m l ([], [])
  unfold partsGo
  simpa using this
theorem joined_snoc : ∀ (l : Lines) (x : B), l ≠ [] → joined (l ++ [x]) = joined l ++ 10 :: x
  | [], x, h => absurd rfl h
  | [a], x, _ => rfl
  | a :: b :: r, x, _ => by
    show a ++ 10 :: joined (b :: r ++ [x]) = (a ++ 10 :: joined (b :: r)) ++ 10 :: x
    rw [joined_snoc (b :: r) x (List.cons_ne_nil _ _)]
    simp
theorem joined_len (l : Lines) (m : Nat) : (∀ x ∈ l, x.length ≤ m) → (joined l).length ≤ l.length * (m + 1) := by
  induction l with
  | nil => intro _; exact Nat.zero_le _
  | cons a r ih =>
    intro h
    have ha := h a List.mem_cons_self
    have ihr := ih fun x hx => h x (List.mem_cons_of_mem _ hx)
    rw [List.length_cons, Nat.succ_mul]
    cases r with
    | nil => show a.length ≤ _; omega
    | cons b s =>
      show (a ++ 10 :: joined (b :: s)).length ≤ _
      rw [List.length_append, List.length_cons]
      omega
theorem solid_nonneg (l : B) (k : Int) (h : k ∈ solidPlaces l) : 0 ≤ k := (solid_lt l k h).1
theorem decimal_len100 {n : Int} (h' : n.natAbs < 2 ^ 250) : (decimal n).length ≤ 101 := by
  have h : n.natAbs < 10 ^ 100 := Nat.lt_of_lt_of_le h' (by decide)
  rw [decimal_length]
  by_cases hz : 0 ≤ n
  · rw [decimal_nonneg hz]
    have := (dig_len_le (n := n.toNat) (k := 100) (by decide)).mpr (by omega)
    omega
  · rw [decimal_neg (by omega), List.length_cons]
    have := (dig_len_le (n := (-n).toNat) (k := 100) (by decide)).mpr (by omega)
    omega
theorem flatMap_take_le {α β : Type} (f : α → List β) (l : List α) (n : Nat) : ((l.take n).flatMap f).length ≤ (l.flatMap f).length := by
  conv => rhs; rw [← List.take_append_drop n l]
  rw [List.flatMap_append, List.length_append]
  exact Nat.le_add_right _ _
theorem cell1_short (l : B) (h : l.length < 2) : cell1 l = none := by
  match l, h with
  | [], _ => rfl
  | [_], _ => rfl
theorem cell1_cc (z n : Int) (r : B) : cell1 (z :: n :: r) = if z = 0 then some (2, numberCell n) else if z = 1 then
      (if 0 ≤ n ∧ n ≤ 200 ∧ n.toNat ≤ r.length ∧ isText (r.take n.toNat) = true then some (2 + n.toNat, textCell (r.take n.toNat)) else none) else none := rfl
theorem cell1_bad (z n : Int) (r : B) (h : z < 0 ∨ 1 < z) : cell1 (z :: n :: r) = none := by
  rw [cell1_cc, if_neg (by omega), if_neg (by omega)]
theorem getD_some {l : B} {k : Nat} (h : k < l.length) : l[k]? = some (l.getD k 0) := by
  rw [List.getD_eq_getElem?_getD, List.getElem?_eq_getElem h]
  rfl
theorem drop_two (l : B) (k : Nat) (h : k + 2 ≤ l.length) : l.drop k = l.getD k 0 :: l.getD (k + 1) 0 :: l.drop (k + 2) := by
  have e1 := getD_some (l := l) (k := k) (by omega)
  have e2 := getD_some (l := l) (k := k + 1) (by omega)
  rw [List.drop_eq_getElem_cons (by omega), List.drop_eq_getElem_cons (i := k + 1) (by omega)]
  rw [List.getElem?_eq_getElem (by omega)] at e1 e2
  rw [Option.some.inj e1, Option.some.inj e2]
theorem cell1_le : ∀ {l : B} {k : Nat} {c : Cell}, cell1 l = some (k, c) → 2 ≤ k ∧ k ≤ l.length
  | [], k, c, h => by cases h
  | [_], k, c, h => by cases h
  | z :: n :: r, k, c, h => by
    rw [cell1_cc] at h
    simp only [List.length_cons]
    by_cases h0 : z = 0
    · rw [if_pos h0] at h
      have e := Option.some.inj h
      injection e with e1 e2
      omega
    · rw [if_neg h0] at h
      by_cases h1 : z = 1
      · rw [if_pos h1] at h
        split at h
        · rename_i hc
          have e := Option.some.inj h
          injection e with e1 e2
          omega
        · cases h
      · rw [if_neg h1] at h
        cases h
theorem decGo_step (f : Nat) (l : B) (h : l ≠ []) : decGo (f + 1) l = match cell1 l with
    | none => none
    | some (k, c) => (decGo f (l.drop k)).map fun m => c :: m := by
  cases l with
  | nil => exact absurd rfl h
  | cons x r => rfl
theorem quoteByte_len (b : Int) : (quoteByte b).length ≤ 2 := by
  unfold quoteByte
  split <;> simp
theorem quote_len : ∀ l : B, (l.flatMap quoteByte).length ≤ 2 * l.length
  | [] => Nat.le_refl _
  | x :: r => by
    rw [List.flatMap_cons, List.length_append, List.length_cons]
    have h1 := quoteByte_len x
    have h2 := quote_len r
    omega
/-! ### drawing -/
def small (l : B) : Prop := ∀ x ∈ l, x.natAbs < 1180591620717411303424
theorem small_mem {l : B} (h : small l) {x : Int} (hx : x ∈ l) : x.natAbs < 2 ^ 250 := Nat.lt_of_lt_of_le (h x hx) (by decide)
theorem lmin_le_lmax {l : B} (h : l ≠ []) : lmin l ≤ lmax l := by
  obtain ⟨x, hx⟩ := List.exists_mem_of_ne_nil l h
  exact Int.le_trans (lmin_le hx) (le_lmax hx)
theorem small_span {l : B} (h : small l) (hl : l ≠ []) : lmax l - lmin l < 1267650600228229401496703205376 := by
  have h1 := h _ (lmax_mem hl)
  have h2 := h _ (lmin_mem hl)
  omega
theorem place_bounds {height grid : Int} {xs ys : B} {x y : Int} (hh : 1 ≤ height) (hg : 1 ≤ grid) (hx : x ∈ xs) (hy : y ∈ ys) : 0 ≤ place height grid xs ys x y ∧ place height grid xs ys x y < height * grid := by
  obtain ⟨a1, a2⟩ := scaled_bounds (lmin_le hx) (le_lmax hx) hg
  obtain ⟨b1, b2⟩ := scaled_bounds (lmin_le hy) (le_lmax hy) hh
  unfold place
  have m1 : 0 ≤ scaled y (lmin ys) (lmax ys) height * grid := Int.mul_nonneg b1 (by omega)
  have m2 : scaled y (lmin ys) (lmax ys) height * grid ≤ (height - 1) * grid := Int.mul_le_mul_of_nonneg_right b2 (by omega)
  rw [Int.sub_mul, Int.one_mul] at m2
  omega
theorem countFold_len (height grid : Int) (xs ys : B) : ∀ (l : List (Int × Int)) (c : B), (l.foldl (countStep height grid xs ys) c).length = c.length
  | [], _ => rfl
  | p :: r, c => by
    rw [List.foldl_cons, countFold_len height grid xs ys r]
    exact List.length_set
theorem counted_len (height grid : Int) (xs ys : B) : (counted height grid xs ys).length = (height * grid).toNat := by
  unfold counted
  rw [countFold_len]
  exact List.length_replicate
theorem repeated_len (b n : Int) : (repeated b n).length = n.toNat := List.length_replicate
theorem filledBefore_len (l : B) (w : Int) : (filledBefore l w).length ≤ l.length + w.toNat := by
  unfold filledBefore
  rw [List.length_append, repeated_len]
  omega
theorem filledBehind_len (l : B) (w : Int) : (filledBehind l w).length ≤ l.length + w.toNat := by
  unfold filledBehind
  rw [List.length_append, repeated_len]
  omega
theorem shortened_len (l : B) (w : Int) (hw : 1 ≤ w) : ((shortened l w).length : Int) ≤ w := by
  unfold shortened
  split
  · assumption
  · rw [List.length_append, List.length_take, List.length_singleton]
    omega
theorem rowLabel_len (row height low high : Int) (h1 : low.natAbs < 2 ^ 250) (h2 : high.natAbs < 2 ^ 250) : (rowLabel row height low high).length ≤ 101 := by
  unfold rowLabel
  split
  · exact decimal_len100 h2
  · split
    · exact decimal_len100 h1
    · exact Nat.zero_le _
theorem stride_mem {α : Type} {a k : Nat} {l : List α} {x : α} (h : x ∈ stride a k l) : x ∈ l := by
  unfold stride at h
  obtain ⟨i, _, hi⟩ := List.mem_filterMap.mp h
  exact List.mem_of_getElem? hi
theorem stride_ne {α : Type} {a k : Nat} {l : List α} (hk : 0 < k) (h : a < l.length) : stride a k l ≠ [] := by
  intro e
  have : l[a] ∈ stride a k l := by
    unfold stride
    refine List.mem_filterMap.mpr ⟨0, List.mem_range.mpr ?_, ?_⟩
    · exact Nat.div_pos (by omega) hk
    · rw [Nat.zero_mul, Nat.add_zero]
      exact List.getElem?_eq_getElem h
  rw [e] at this
  cases this
theorem small_stride {a k : Nat} {l : B} (h : small l) : small (stride a k l) := fun x hx => h x (stride_mem hx)
theorem barLength_le {number room greatest : Int} (h0 : 0 ≤ number) (h1 : number ≤ greatest) (hr : 0 ≤ room) : barLength number room greatest ≤ room ∧ 0 ≤ barLength number room greatest := by
  unfold barLength
  split
  · rename_i hg
    refine ⟨?_, Int.ediv_nonneg (Int.mul_nonneg h0 hr) (by omega)⟩
    have : number * room ≤ greatest * room := Int.mul_le_mul_of_nonneg_right h1 hr
    calc number * room / greatest ≤ greatest * room / greatest := Int.ediv_le_ediv hg this
      _ = room := by rw [Int.mul_comm, Int.mul_ediv_cancel _ (by omega)]
  · omega
theorem singleLine_len (t : B) : (singleLine t).length = t.length := List.length_map _
theorem maxI_bounds (i j : Int) : i ≤ maxI i j ∧ j ≤ maxI i j ∧ (maxI i j = i ∨ maxI i j = j) := by
  unfold maxI
  split <;> omega
theorem minI_bounds (i j : Int) : minI i j ≤ i ∧ minI i j ≤ j ∧ (minI i j = i ∨ minI i j = j) := by
  unfold minI
  split <;> omega
theorem lmax_le {l : B} {m : Int} (h : ∀ x ∈ l, x ≤ m) (h0 : 0 ≤ m) : lmax l ≤ m := by
  by_cases c : l = []
  · subst c; exact h0
  · exact h _ (lmax_mem c)
theorem lmax_ge {l : B} {m : Int} (h : ∀ x ∈ l, m ≤ x) (h0 : m ≤ 0) : m ≤ lmax l := by
  by_cases c : l = []
  · subst c; exact h0
  · exact h _ (lmax_mem c)
theorem plotLabel_bounds {ys : B} (h : small ys) (hy : ys ≠ []) : 0 ≤ plotLabel ys ∧ plotLabel ys ≤ 101 := by
  unfold plotLabel
  have h1 := decimal_len100 (small_mem h (lmin_mem hy))
  have h2 := decimal_len100 (small_mem h (lmax_mem hy))
  obtain ⟨a, b, c⟩ := maxI_bounds ((decimal (lmin ys)).length : Int) ((decimal (lmax ys)).length : Int)
  omega
end R
end
section
set_option Elab.async false
set_option linter.all false
/-! Sizes of the mirror's tables. -/
namespace R
def okC (c : Cell) : Prop := c.b.natAbs < 1267650600228229401496703205376 ∧ c.c.length ≤ 200
def okW (ws : B) : Prop := ws.length ≤ 8 ∧ ∀ w ∈ ws, 1 ≤ w ∧ w ≤ 402
def tabOk (n : Int) (cs : List Cell) : Prop := 1 ≤ n ∧ n ≤ 8 ∧ n ≤ cs.length ∧ (cs.length : Int) ≤ 25 * n ∧ (cs.length : Int) % n = 0 ∧ ∀ c ∈ cs, okC c
theorem okC_b {c : Cell} (h : okC c) : c.b.natAbs < 2 ^ 250 := Nat.lt_of_lt_of_le h.1 (by decide)
theorem decimal_pos (n : Int) : 1 ≤ (decimal n).length := by
  unfold decimal signs
  rw [List.length_map]
  have h : (toString n).toList ≠ [] := by
    cases n with
    | ofNat k =>
      show (Nat.repr k).toList ≠ []
      rw [Nat.toList_repr]
      intro e
      have := Nat.length_toDigits_pos (b := 10) (n := k)
      rw [e] at this
      exact absurd this (by decide)
    | negSucc k =>
      show ("-" ++ Nat.repr (k + 1)).toList ≠ []
      rw [String.toList_append]
      exact fun e => absurd e (by simp)
  cases h2 : (toString n).toList with
  | nil => exact absurd h2 h
  | cons => exact Nat.succ_le_succ (Nat.zero_le _)
theorem printed_len {c : Cell} (h : okC c) : 1 ≤ (printed c).length ∧ (printed c).length ≤ 402 := by
  have h2 := h.2
  unfold printed
  split
  · exact ⟨decimal_pos _, Nat.le_trans (decimal_len100 (okC_b h)) (by decide)⟩
  · split
    · rename_i hp
      refine ⟨?_, Nat.le_trans h2 (by decide)⟩
      cases e : c.c with
      | nil => rw [e] at hp; exact absurd hp (by decide)
      | cons => exact Nat.succ_le_succ (Nat.zero_le _)
    · unfold quoted
      rw [List.length_append, List.length_cons, List.length_singleton]
      have := quote_len c.c
      omega
theorem naturalWidth_bounds {n k : Int} {cs : List Cell} (hn : 1 ≤ n) (hk : 0 ≤ k) (hk2 : k < cs.length) (ho : ∀ c ∈ cs, okC c) : 1 ≤ naturalWidth n cs k ∧ naturalWidth n cs k ≤ 402 := by
  have ne : stride k.toNat n.toNat cs ≠ [] := stride_ne (by omega) (by omega)
  have ne2 : ((stride k.toNat n.toNat cs).map fun c => ((printed c).length : Int)) ≠ [] := fun e => ne (List.map_eq_nil_iff.mp e)
  obtain ⟨c, hc, e⟩ := List.mem_map.mp (lmax_mem ne2)
  have := printed_len (ho c (stride_mem hc))
  unfold naturalWidth
  rw [← e]
  omega
theorem naturalWidths_ok {n m : Int} {cs : List Cell} (ht : tabOk n cs) (hm : m ≤ n) : okW (naturalWidths n cs m) := by
  obtain ⟨h1, h2, h3, h4, h5, h6⟩ := ht
  refine ⟨?_, fun w hw => ?_⟩
  · unfold naturalWidths
    rw [List.length_map, List.length_range]
    omega
  · obtain ⟨i, hi, rfl⟩ := List.mem_map.mp hw
    have := List.mem_range.mp hi
    exact naturalWidth_bounds h1 (Int.natCast_nonneg _) (by omega) h6
theorem naturalWidths_len (n m : Int) (cs : List Cell) : (naturalWidths n cs m).length = m.toNat := by
  unfold naturalWidths
  rw [List.length_map, List.length_range]
theorem placeOf_lt {x : Int} : ∀ {l : B}, x ∈ l → placeOf x l < l.length ∧ l.getD (placeOf x l) 0 = x
  | y :: r, h => by
    unfold placeOf
    by_cases c : y = x
    · rw [if_pos c]
      exact ⟨Nat.succ_pos _, c⟩
    · rw [if_neg c]
      obtain ⟨a, b⟩ := placeOf_lt (l := r) (by
        rcases List.mem_cons.mp h with e | e
        · exact absurd e.symm c
        · exact e)
      exact ⟨Nat.succ_lt_succ a, b⟩
theorem narrow1_len (ws : B) : (narrow1 ws).length = ws.length := List.length_set
theorem times_succ' {α : Type} (f : α → α) : ∀ (n : Nat) (x : α), times f (n + 1) x = f (times f n x) := fun _ _ => rfl
theorem times_len (k : Nat) (ws : B) : (times narrow1 k ws).length = ws.length := by
  induction k with
  | zero => rfl
  | succ k ih => rw [times_succ', narrow1_len, ih]
theorem set_sum : ∀ (l : B) (i : Nat) (v : Int), i < l.length → (l.set i v).sum = l.sum - l.getD i 0 + v
  | x :: r, 0, v, _ => by
    show (v :: r).sum = (x :: r).sum - x + v
    rw [List.sum_cons, List.sum_cons]
    omega
  | x :: r, i + 1, v, h => by
    show (x :: r.set i v).sum = (x :: r).sum - r.getD i 0 + v
    rw [List.sum_cons, List.sum_cons, set_sum r i v (Nat.lt_of_succ_lt_succ h)]
    omega
theorem narrow1_sum {ws : B} (h : ws ≠ []) : (narrow1 ws).sum = ws.sum - 1 := by
  unfold narrow1
  obtain ⟨a, b⟩ := placeOf_lt (lmax_mem h)
  rw [set_sum _ _ _ a]
  omega
theorem sum_le_max : ∀ (ws : B) (m : Int), (∀ w ∈ ws, w ≤ m) → ws.sum ≤ m * ws.length
  | [], m, _ => by simp
  | x :: r, m, h => by
    have h1 := h x (List.mem_cons_self ..)
    have h2 := sum_le_max r m fun w hw => h w (List.mem_cons_of_mem _ hw)
    rw [List.sum_cons, List.length_cons]
    have e : m * ((r.length + 1 : Nat) : Int) = m * (r.length : Int) + m := by
      rw [Int.natCast_add, Int.mul_add]
      omega
    omega
theorem sum_ge_min : ∀ (ws : B) (m : Int), (∀ w ∈ ws, m ≤ w) → m * ws.length ≤ ws.sum
  | [], m, _ => by simp
  | x :: r, m, h => by
    have h1 := h x (List.mem_cons_self ..)
    have h2 := sum_ge_min r m fun w hw => h w (List.mem_cons_of_mem _ hw)
    rw [List.sum_cons, List.length_cons]
    have e : m * ((r.length + 1 : Nat) : Int) = m * (r.length : Int) + m := by
      rw [Int.natCast_add, Int.mul_add]
      omega
    omega
theorem mem_set' {l : B} {i : Nat} {v x : Int} (h : x ∈ l.set i v) : x ∈ l ∨ x = v := by
  exact List.mem_or_eq_of_mem_set h
/-- a step of narrowing, as long as the row is too long -/
theorem narrow1_ok {ws : B} (h : okW ws) (h0 : ws ≠ []) (hs : 3 * (ws.length : Int) < ws.sum) : okW (narrow1 ws) := by
  have hm : 3 < lmax ws := by
    by_cases c : lmax ws ≤ 3
    · have := sum_le_max ws 3 fun w hw => Int.le_trans (le_lmax hw) c
      omega
    · omega
  refine ⟨by rw [narrow1_len]; exact h.1, fun w hw => ?_⟩
  obtain ⟨a, b⟩ := placeOf_lt (lmax_mem h0)
  have h2 := h.2 _ (lmax_mem h0)
  rcases mem_set' hw with e | e
  · exact h.2 w e
  · rw [b] at e
    omega
theorem times_ok {ws : B} {width : Int} (h : okW ws) (h0 : ws ≠ []) (hw : 6 * (ws.length : Int) + 1 ≤ width) : ∀ k : Nat, (k : Int) ≤ excess ws width ∨ k = 0 → okW (times narrow1 k ws) ∧ (times narrow1 k ws).sum = ws.sum - k
  | 0, _ => ⟨h, by show ws.sum = _; omega⟩
  | k + 1, hk => by
    have hk : ((k + 1 : Nat) : Int) ≤ excess ws width := by omega
    obtain ⟨h1, h2⟩ := times_ok h h0 hw k (by omega)
    have hl := times_len k ws
    have ne : times narrow1 k ws ≠ [] := fun e => by
      rw [e] at hl
      exact h0 (List.length_eq_zero_iff.mp hl.symm)
    unfold excess at hk
    rw [times_succ']
    exact ⟨narrow1_ok h1 ne (by rw [hl, h2]; omega), by rw [narrow1_sum ne, h2]; omega⟩
theorem narrowed_ok {ws : B} {width : Int} (h : okW ws) (h0 : ws ≠ []) (hw : 6 * (ws.length : Int) + 1 ≤ width) : okW (narrowed ws width) := by
  refine (times_ok h h0 hw _ ?_).1
  omega
theorem visible_bounds {n width : Int} (hn : 1 ≤ n) (hw : 20 ≤ width) : 1 ≤ visibleTotal n width ∧ visibleTotal n width ≤ n ∧ 6 * visibleTotal n width + 1 ≤ width := by
  have := minI_bounds n ((width - 1) / 6)
  unfold visibleTotal
  omega
theorem fitting_ok {n width : Int} {cs : List Cell} (ht : tabOk n cs) (hw : 20 ≤ width) : okW (fittingWidths n cs width) ∧ (fittingWidths n cs width).length = (visibleTotal n width).toNat := by
  obtain ⟨v1, v2, v3⟩ := visible_bounds ht.1 hw
  have hl := naturalWidths_len n (visibleTotal n width) cs
  refine ⟨narrowed_ok (naturalWidths_ok ht v2) (fun e => ?_) (by omega), ?_⟩
  · rw [e, List.length_nil] at hl
    omega
  · unfold fittingWidths narrowed
    rw [times_len, hl]
theorem flatMap_len {α β : Type} {f : α → List β} {m : Nat} : ∀ {l : List α}, (∀ x ∈ l, (f x).length ≤ m) → (l.flatMap f).length ≤ l.length * m
  | [], _ => by simp
  | x :: r, h => by
    rw [List.flatMap_cons, List.length_append, List.length_cons]
    have h1 := h x (List.mem_cons_self ..)
    have h2 := flatMap_len (l := r) fun y hy => h y (List.mem_cons_of_mem _ hy)
    rw [Nat.add_mul]
    omega
theorem rulerGo_len {ws : B} (h : okW ws) : (ws.flatMap fun w => 43 :: repeated 45 (w + 2)).length ≤ 4000 := by
  have h2 := flatMap_len (f := fun w => 43 :: repeated 45 (w + 2)) (m := 405) (l := ws) fun w hw => by
    have := h.2 w hw
    rw [List.length_cons, repeated_len]
    omega
  have := h.1
  omega
theorem filledCell_len {c : Cell} {w : Int} (h1 : 1 ≤ w) (h2 : w ≤ 402) : (filledCell c w).length ≤ 804 := by
  have h3 := shortened_len (printed c) w h1
  unfold filledCell
  split
  · have := filledBefore_len (shortened (printed c) w) w
    omega
  · have := filledBehind_len (shortened (printed c) w) w
    omega
theorem rowGo_len {cs : List Cell} {ws : B} (h : okW ws) : ((cs.zip ws).flatMap fun p => [124, 32] ++ filledCell p.1 p.2 ++ [32]).length ≤ 7000 := by
  have h2 := flatMap_len (f := fun (p : Cell × Int) => [124, 32] ++ filledCell p.1 p.2 ++ [32]) (m := 807) (l := cs.zip ws) fun p hp => by
    have := h.2 p.2 (List.of_mem_zip hp).2
    have := filledCell_len (c := p.1) this.1 this.2
    rw [List.length_append, List.length_append, List.length_singleton]
    show 2 + _ + 1 ≤ _
    omega
  have := h.1
  have : (cs.zip ws).length ≤ ws.length := by rw [List.length_zip]; omega
  omega
theorem rowTotal_bounds {n : Int} {cs : List Cell} (h : tabOk n cs) : 1 ≤ rowTotal n cs ∧ rowTotal n cs ≤ 25 ∧ rowTotal n cs * n = cs.length := by
  obtain ⟨h1, h2, h3, h4, h5, h6⟩ := h
  unfold rowTotal
  have e : (cs.length : Int) / n * n = cs.length := by
    have := Int.ediv_mul_add_emod (cs.length : Int) n
    omega
  refine ⟨?_, ?_, e⟩
  · exact (Int.le_ediv_iff_mul_le (by omega)).mpr (by omega)
  · have : (cs.length : Int) / n < 26 := (Int.ediv_lt_iff_lt_mul (by omega)).mpr (by omega)
    omega
theorem rowCells_len {n i : Int} {cs : List Cell} (h : tabOk n cs) (hi : 0 ≤ i) (hi2 : i < rowTotal n cs) : ((rowCells n cs i).length : Int) = n := by
  obtain ⟨h7, h8, h9⟩ := rowTotal_bounds h
  obtain ⟨h1, h2, h3, h4, h5, h6⟩ := h
  have e1 : (i + 1) * n = i * n + n := by rw [Int.add_mul, Int.one_mul]
  have e2 : (i + 1) * n ≤ rowTotal n cs * n := Int.mul_le_mul_of_nonneg_right (by omega) (by omega)
  have e3 : 0 ≤ i * n := Int.mul_nonneg hi (by omega)
  unfold rowCells
  rw [List.length_take, List.length_drop]
  omega
theorem rowCells_mem {n i : Int} {cs : List Cell} {c : Cell} (h : c ∈ rowCells n cs i) : c ∈ cs := List.mem_of_mem_drop (List.mem_of_mem_take h)
theorem rowCells_le {n i : Int} {cs : List Cell} : (rowCells n cs i).length ≤ cs.length := by
  unfold rowCells
  rw [List.length_take, List.length_drop]
  omega
theorem framed_len {n : Int} {cs : List Cell} {ws : B} (h : tabOk n cs) (hw : okW ws) : (framed n cs ws).length ≤ 1000 ∧ ∀ x ∈ framed n cs ws, x.length ≤ 10000 := by
  obtain ⟨t1, t2, t3⟩ := rowTotal_bounds h
  have hr : (ruler ws).length ≤ 10000 := by
    have := rulerGo_len hw
    unfold ruler
    rw [List.length_append, List.length_singleton]
    omega
  have hc : ∀ c, (tableRow c ws).length ≤ 10000 := fun c => by
    have := rowGo_len (cs := c) hw
    unfold tableRow
    rw [List.length_append, List.length_singleton]
    omega
  refine ⟨?_, fun x hx => ?_⟩
  · unfold framed
    rw [List.length_append, List.length_append, List.length_map, List.length_range]
    show 3 + _ + 1 ≤ _
    omega
  · unfold framed at hx
    simp only [List.mem_append, List.mem_cons, List.not_mem_nil, or_false, List.mem_map] at hx
    rcases hx with ((rfl | rfl | rfl) | ⟨i, _, rfl⟩) | rfl
    · exact hr
    · exact hc _
    · exact hr
    · exact hc _
    · exact hr
theorem inserted_ok {n : Int} {rows : List (List Cell)} {row : List Cell} {k d : Int} (h : ∀ x ∈ rows, (x.length : Int) = n) (hr : (row.length : Int) = n) : (inserted rows row k d).length = rows.length + 1 ∧ ∀ x ∈ inserted rows row k d, (x.length : Int) = n := by
  unfold inserted
  refine ⟨?_, fun x hx => ?_⟩
  · rw [List.length_append, List.length_append, List.length_take, List.length_drop, List.length_singleton]
    have : (aheadOf rows row k d).length ≤ rows.length := List.length_filter_le _ _
    omega
  · simp only [List.mem_append, List.mem_cons, List.not_mem_nil, or_false] at hx
    rcases hx with (hx | rfl) | hx
    · exact h x (List.mem_of_mem_take hx)
    · exact hr
    · exact h x (List.mem_of_mem_drop hx)
theorem sortGo_ok {n k : Int} {cs : List Cell} (h : tabOk n cs) (h2 : 0 ≤ k) (h3 : k < n) (c d : Int) : ∀ i : Nat, (i : Int) < rowTotal n cs → ((List.range i).foldl (sortStep n cs c d) []).length = i ∧ ∀ x ∈ (List.range i).foldl (sortStep n cs c d) [], (x.length : Int) = n
  | 0, _ => ⟨rfl, fun x hx => absurd hx List.not_mem_nil⟩
  | i + 1, hi => by
    obtain ⟨a, b⟩ := sortGo_ok h h2 h3 c d i (by omega)
    rw [List.range_succ, List.foldl_append]
    have z := inserted_ok (k := c) (d := d) b (rowCells_len h (i := 1 + (i : Int)) (by omega) (by omega))
    rw [a] at z
    exact z
end R
end
section
set_option Elab.async false
set_option linter.all false
/-! Sizes of the mirror's layout, reading and sheets. -/
namespace R
theorem partStep_mem (m : Int) (n : Nat) : ∀ (l : B) (s : Lines × B), (∀ x ∈ s.1, x.length ≤ n) → s.2.length + l.length ≤ n → (∀ x ∈ (l.foldl (partStep m) s).1, x.length ≤ n) ∧ (l.foldl (partStep m) s).2.length ≤ n
  | [], s, h1, h2 => ⟨h1, by simpa using h2⟩
  | b :: r, s, h1, h2 => by
    rw [List.foldl_cons]
    rw [List.length_cons] at h2
    refine partStep_mem m n r _ ?_ ?_
    · unfold partStep
      split
      · intro x hx
        rcases List.mem_append.mp hx with hx | hx
        · exact h1 x hx
        · rw [List.mem_singleton.mp hx]
          omega
      · exact h1
    · unfold partStep
      split
      · show 0 + _ ≤ _
        omega
      · show (s.2 ++ [b]).length + _ ≤ _
        rw [List.length_append, List.length_singleton]
        omega
theorem parts_mem {l : B} {m : Int} {x : B} (h : x ∈ parts l m) : x.length ≤ l.length := by
  obtain ⟨a, b⟩ := partStep_mem m l.length l ([], []) (fun x hx => absurd hx List.not_mem_nil) (by simp)
  rcases List.mem_append.mp h with h | h
  · exact a x h
  · rw [List.mem_singleton.mp h]
    exact b
theorem parts_len (l : B) (m : Int) : (parts l m).length ≤ l.length + 1 := by
  have := partsGo_len l m
  unfold parts
  rw [List.length_append, List.length_singleton]
  omega
theorem chunks_len {α : Type} (l : List α) (k : Nat) (hk : 0 < k) : (chunks l (k : Int)).length ≤ l.length := by
  unfold chunks
  rw [List.length_map, List.length_range, Int.toNat_natCast]
  have h : (l.length + (k - 1)) / k < l.length + 1 := (Nat.div_lt_iff_lt_mul hk).mpr (by
    have := Nat.le_mul_of_pos_right l.length hk
    have e : (l.length + 1) * k = l.length * k + k := Nat.succ_mul ..
    omega)
  omega
theorem chunks_mem {α : Type} {l : List α} {k : Nat} {x : List α} (h : x ∈ chunks l (k : Int)) : x.length ≤ k := by
  obtain ⟨i, _, rfl⟩ := List.mem_map.mp h
  rw [List.length_take, Int.toNat_natCast]
  omega
theorem chunks_ne {α : Type} {l : List α} {k : Nat} (hk : 0 < k) (h : l ≠ []) : chunks l (k : Int) ≠ [] := by
  intro e
  have e2 := congrArg List.length e
  unfold chunks at e2
  rw [List.length_map, List.length_range, Int.toNat_natCast, List.length_nil] at e2
  have : 0 < l.length := List.length_pos_iff.mpr h
  have := Nat.div_pos (show k ≤ l.length + (k - 1) by omega) hk
  omega
theorem wordsOf_mem {p : B} {k : Nat} {x : B} (h : x ∈ wordsOf p (k : Int)) : x.length ≤ k := by
  obtain ⟨y, _, hx⟩ := List.mem_flatMap.mp h
  exact chunks_mem hx
theorem partFold_sum (m : Int) : ∀ (l : B) (s : Lines × B), (l.foldl (partStep m) s).1.flatten.length + (l.foldl (partStep m) s).2.length ≤ s.1.flatten.length + s.2.length + l.length
  | [], s => Nat.le_refl _
  | b :: r, s => by
    rw [List.foldl_cons, List.length_cons]
    have h := partFold_sum m r (partStep m s b)
    have : (partStep m s b).1.flatten.length + (partStep m s b).2.length ≤ s.1.flatten.length + s.2.length + 1 := by
      unfold partStep
      split
      · show (s.1 ++ [s.2]).flatten.length + 0 ≤ _
        rw [List.flatten_append, List.length_append]
        simp
      · show s.1.flatten.length + (s.2 ++ [b]).length ≤ _
        rw [List.length_append, List.length_singleton]
        omega
    omega
theorem parts_sum (l : B) (m : Int) : (parts l m).flatten.length ≤ l.length := by
  have := partFold_sum m l ([], [])
  unfold parts partsGo
  rw [List.flatten_append, List.length_append]
  simp at this ⊢
  exact this
theorem flatMap_sum {α : Type} {f : List Int → List α} (h : ∀ x, (f x).length ≤ x.length) : ∀ l : Lines, (l.flatMap f).length ≤ l.flatten.length
  | [] => Nat.le_refl _
  | x :: r => by
    rw [List.flatMap_cons, List.flatten_cons, List.length_append, List.length_append]
    exact Nat.add_le_add (h x) (flatMap_sum h r)
theorem wordsOf_len (p : B) (k : Nat) (hk : 0 < k) : (wordsOf p (k : Int)).length ≤ p.length :=
  Nat.le_trans (flatMap_sum (f := fun w => chunks w (k : Int)) (fun x => chunks_len x k hk) (parts p 32)) (parts_sum p 32)
theorem wrapFold_len (w : Int) : ∀ (l : Lines) (s : Lines × B), (l.foldl (wrapStep w) s).1.length ≤ s.1.length + l.length
  | [], s => Nat.le_refl _
  | x :: r, s => by
    rw [List.foldl_cons, List.length_cons]
    have := wrapFold_len w r (wrapStep w s x)
    have : (wrapStep w s x).1.length ≤ s.1.length + 1 := by
      unfold wrapStep
      split
      · exact Nat.le_succ _
      · show (s.1 ++ [s.2]).length ≤ _
        rw [List.length_append]
        exact Nat.le_refl _
    omega
theorem wrapped_len (ws : Lines) (w : Int) : (wrapped ws w).length ≤ ws.length + 1 := by
  cases ws with
  | nil => exact Nat.le_refl 1
  | cons x r =>
    have h := wrapFold_len w r ([], x)
    show List.length (_ ++ [_]) ≤ _
    rw [List.length_append, List.length_singleton, List.length_cons]
    have e : ([] : Lines).length = 0 := rfl
    simp only [e] at h
    omega
theorem paragraph_len {t : B} {k : Nat} (hk : 0 < k) (ht : t.length ≤ 200) : (paragraphLines t (k : Int)).length ≤ 50000 := by
  have h := flatMap_len (f := fun p => wrapped (wordsOf p (k : Int)) (k : Int)) (m := 201) (l := parts t 10) fun x hx => by
    have h1 := wrapped_len (wordsOf x (k : Int)) (k : Int)
    have h2 := wordsOf_len x k hk
    have h3 := parts_mem hx
    omega
  have h5 := parts_len t 10
  show List.length (List.flatMap _ _) ≤ _
  omega
/-! ### items -/
def itemOk : Item → Prop
  | .head _ t => t.length ≤ 200
  | .para t => t.length ≤ 200
  | .tab n cs => tabOk n cs
  | .plot h co => 1 ≤ h ∧ h ≤ 100 ∧ co.length ≤ 1000 ∧ co.length % 2 = 0 ∧ small co
  | .check _ t => t.length ≤ 200
  | .bars cs => cs.length ≤ 1000 ∧ cs.length % 2 = 0 ∧ ∀ c ∈ cs, c.c.length ≤ 200 ∧ 0 ≤ c.b ∧ c.b < 1180591620717411303424
def stockOk (s : Stock) : Prop := s.length ≤ 12 ∧ ∀ x ∈ s, itemOk x
theorem sum_le {l : Lines} {m : Nat} (h : ∀ x ∈ l, x.length ≤ m) : (l.map List.length).sum ≤ l.length * m := by
  induction l with
  | nil => simp
  | cons x r ih =>
    have h1 := h x (List.mem_cons_self ..)
    have h2 := ih fun y hy => h y (List.mem_cons_of_mem _ hy)
    rw [List.map_cons, List.sum_cons, List.length_cons, Nat.succ_mul]
    omega
theorem stride_le {α : Type} (a k : Nat) (l : List α) (hk : 0 < k) : (stride a k l).length ≤ l.length + 1 := by
  unfold stride
  refine Nat.le_trans (List.length_filterMap_le _ _) ?_
  rw [List.length_range]
  have : (l.length - a + (k - 1)) / k < l.length + 2 := (Nat.div_lt_iff_lt_mul hk).mpr (by
    have h2 := Nat.le_mul_of_pos_right l.length hk
    have e : (l.length + 2) * k = l.length * k + 2 * k := Nat.add_mul ..
    omega)
  omega
theorem item_len {it : Item} {w : Int} (h : itemOk it) (h1 : 20 ≤ w) : (itemLines it w).length ≤ 50000 := by
  obtain ⟨k, rfl⟩ : ∃ k : Nat, w = k := ⟨w.toNat, by omega⟩
  cases it with
  | head l t =>
    show (headingLines l t k).length ≤ _
    unfold headingLines
    split
    · exact (by decide : 1 ≤ 50000)
    · split
      · exact (by decide : 2 ≤ 50000)
      · exact (by decide : 2 ≤ 50000)
  | para t => exact paragraph_len (by omega) h
  | tab n cs =>
    obtain ⟨f1, f2⟩ := fitting_ok h h1
    have := (framed_len h f1).1
    show (tableLines n cs k).length ≤ _
    unfold tableLines
    dsimp only
    split
    · omega
    · rw [List.length_append, List.length_singleton]
      omega
  | plot hh co =>
    obtain ⟨h3, h4, h5⟩ := h
    show (plotLines hh co k).length ≤ _
    unfold plotLines
    dsimp only
    split
    · exact (by decide : 1 ≤ 50000)
    · split
      · exact (by decide : 1 ≤ 50000)
      · rw [List.length_append, List.length_append, List.length_singleton]
        unfold plotRows scaleLines
        rw [List.length_map, List.length_range]
        split
        · show _ + 1 + 1 ≤ _
          omega
        · show _ + 1 + 2 ≤ _
          omega
  | check p t => exact (by decide : 1 ≤ 50000)
  | bars cs =>
    obtain ⟨h3, h4⟩ := h
    show (barLines cs k).length ≤ _
    unfold barLines
    dsimp only
    split
    · exact (by decide : 1 ≤ 50000)
    · rw [List.length_map, List.length_zip, List.length_map]
      have := stride_le 0 2 cs (by decide)
      omega
theorem document_snoc : ∀ (s : Stock) (x : Item) (w : Int), s ≠ [] → document (s ++ [x]) w = document s w ++ [] :: itemLines x w
  | [], _, _, h => absurd rfl h
  | y :: r, x, w, _ => by
    show itemLines y w ++ (r ++ [x]).flatMap _ = (itemLines y w ++ r.flatMap _) ++ _
    rw [List.flatMap_append, List.append_assoc]
    simp
theorem document_len {s : Stock} {w : Int} (h : ∀ x ∈ s, itemOk x) (h1 : 20 ≤ w) : (document s w).length ≤ s.length * 50001 := by
  cases s with
  | nil => simp [document]
  | cons x r =>
    show (itemLines x w ++ r.flatMap _).length ≤ _
    have h2 := item_len (h x (List.mem_cons_self ..)) h1
    have h3 := flatMap_len (f := fun y => [] :: itemLines y w) (m := 50001) (l := r) fun y hy => by
      have := item_len (h y (List.mem_cons_of_mem _ hy)) h1
      rw [List.length_cons]
      omega
    rw [List.length_append, List.length_cons, Nat.succ_mul]
    omega
/-! ### pages -/
theorem divided_ne {k h : Int} {l : Lines} (h1 : 5 ≤ h) (h2 : h < l.length) : divided k l h ≠ [] := by
  unfold divided
  obtain ⟨m, rfl⟩ : ∃ m : Nat, h = m := ⟨h.toNat, by omega⟩
  split
  · intro e
    have e := List.map_eq_nil_iff.mp e
    rw [show (m : Int) - 3 = ((m - 3 : Nat) : Int) by omega] at e
    refine chunks_ne (by omega) (fun e2 => ?_) e
    have := congrArg List.length e2
    rw [List.length_drop, List.length_nil] at this
    omega
  · refine chunks_ne (by omega) fun e2 => ?_
    have := congrArg List.length e2
    rw [List.length_nil] at this
    omega
theorem divided_len {k h : Int} {l : Lines} (h1 : 5 ≤ h) : (divided k l h).length ≤ l.length := by
  unfold divided
  obtain ⟨m, rfl⟩ : ∃ m : Nat, h = m := ⟨h.toNat, by omega⟩
  split
  · rw [List.length_map, show (m : Int) - 3 = ((m - 3 : Nat) : Int) by omega]
    refine Nat.le_trans (chunks_len _ _ (by omega)) ?_
    rw [List.length_drop]
    omega
  · exact chunks_len _ _ (by omega)
theorem finished_len (d : List Lines) (c : Lines) : (finished d c).length ≤ d.length + 1 := by
  unfold finished
  split
  · omega
  · rw [List.length_append]
    exact Nat.le_refl _
theorem put_len {d : List Lines} {c l : Lines} {k h : Int} (h1 : 5 ≤ h) : (put d c k l h).1.length ≤ d.length + 1 + l.length := by
  have hf := finished_len d c
  unfold put
  split
  · show d.length ≤ _; omega
  · split
    · show d.length ≤ _; omega
    · split
      · show (finished d c).length ≤ _; omega
      · show (finished d c ++ (divided k l h).dropLast).length ≤ _
        have := divided_len (k := k) (l := l) h1
        rw [List.length_append, List.length_dropLast]
        omega
theorem pagesGo_len {w h : Int} (h0 : 20 ≤ w) (h1 : 5 ≤ h) : ∀ (s : Stock), (∀ x ∈ s, itemOk x) → (pagesGo s w h).1.length ≤ s.length * 50001 := by
  intro s hs
  have : ∀ (s : Stock) (p : List Lines × Lines), (∀ x ∈ s, itemOk x) → (s.foldl (pageStep w h) p).1.length ≤ p.1.length + s.length * 50001 := by
    intro s
    induction s with
    | nil => intro p _; simp
    | cons x r ih =>
      intro p hs
      rw [List.foldl_cons, List.length_cons, Nat.succ_mul]
      have a := ih (pageStep w h p x) fun y hy => hs y (List.mem_cons_of_mem _ hy)
      have b := put_len (d := p.1) (c := p.2) (l := itemLines x w) (k := kind x) h1
      have c := item_len (hs x (List.mem_cons_self ..)) h0
      have e : (pageStep w h p x).1.length = (put p.1 p.2 (kind x) (itemLines x w) h).1.length := rfl
      omega
  have z := this s ([], []) hs
  have e : ([] : List Lines).length = 0 := rfl
  show (s.foldl (pageStep w h) ([], [])).1.length ≤ _
  simp only [e] at z
  omega
/-! ### reading -/
theorem solid_len (l : B) : (withoutOuter l).length ≤ l.length := by
  unfold withoutOuter
  split
  · rw [List.length_take, List.length_drop]
    omega
  · exact Nat.zero_le _
theorem rowForms_len (l : B) : (rowForms l).length ≤ l.length + 1 := by
  have := parts_len l 124
  unfold rowForms
  rw [List.length_map, List.length_dropLast, List.length_drop]
  omega
theorem rowForms_mem {l x : B} (h : x ∈ rowForms l) : x.length ≤ l.length := by
  obtain ⟨y, hy, rfl⟩ := List.mem_map.mp h
  exact Nat.le_trans (solid_len y) (parts_mem (List.mem_of_mem_drop (List.dropLast_subset _ hy)))
theorem unq_len (f : B) : ∀ (l : B) (s : B × Bool), (l.foldl unqStep s).1.length ≤ s.1.length + l.length
  | [], s => Nat.le_refl _
  | b :: r, s => by
    rw [List.foldl_cons, List.length_cons]
    have := unq_len f r (unqStep s b)
    have : (unqStep s b).1.length ≤ s.1.length + 1 := by
      unfold unqStep
      split
      · show (s.1 ++ _).length ≤ _
        rw [List.length_append]
        exact Nat.le_refl _
      · split
        · exact Nat.le_succ _
        · show (s.1 ++ _).length ≤ _
          rw [List.length_append]
          exact Nat.le_refl _
    omega
theorem formsRead_ok {n : Int} : ∀ {ls fs : Lines}, formsReadGo n ls = some fs → (fs.length : Int) = n * ls.length ∧ ∀ x ∈ fs, ∃ l ∈ ls, x ∈ rowForms l
  | [], fs, h => by
    obtain rfl : [] = fs := Option.some.inj h
    exact ⟨by simp, fun x hx => absurd hx List.not_mem_nil⟩
  | l :: r, fs, h => by
    unfold formsReadGo at h
    split at h
    · rename_i hl
      obtain ⟨gs, hg, rfl⟩ := Option.map_eq_some_iff.mp h
      obtain ⟨a, b⟩ := formsRead_ok hg
      refine ⟨?_, fun x hx => ?_⟩
      · rw [List.length_append, List.length_cons, Int.natCast_add, Int.natCast_add, a, hl, Int.mul_add]
        omega
      · rcases List.mem_append.mp hx with hx | hx
        · exact ⟨l, List.mem_cons_self .., hx⟩
        · obtain ⟨l', h1, h2⟩ := b x hx
          exact ⟨l', List.mem_cons_of_mem _ h1, h2⟩
    · cases h
theorem decFold_bound : ∀ (ds : B) (t : Int), 0 ≤ t → (∀ d ∈ ds, 48 ≤ d ∧ d ≤ 57) → 0 ≤ ds.foldl decStep t ∧ ds.foldl decStep t < (t + 1) * 10 ^ ds.length
  | [], t, ht, _ => ⟨ht, by simp; omega⟩
  | d :: r, t, ht, h => by
    have hd := h d (List.mem_cons_self ..)
    rw [List.foldl_cons, List.length_cons]
    have e : decStep t d = t * 10 + d - 48 := rfl
    obtain ⟨a, b⟩ := decFold_bound r (decStep t d) (by omega) fun x hx => h x (List.mem_cons_of_mem _ hx)
    refine ⟨a, Int.lt_of_lt_of_le b ?_⟩
    rw [Int.pow_succ, Int.mul_comm (10 ^ r.length) 10, ← Int.mul_assoc]
    refine Int.mul_le_mul_of_nonneg_right (by omega) ?_
    exact Int.le_of_lt (Int.pow_pos (by decide))
theorem isDecimal_digits {row : B} (h : isDecimal row = true) : ∀ d ∈ digitsOf row, 48 ≤ d ∧ d ≤ 57 := by
  unfold isDecimal at h
  split at h
  · cases h
  · rename_i hn
    intro d hd
    have h2 : (digitsOf row).all isDigit = true := by
      cases e : (digitsOf row).all isDigit with
      | true => rfl
      | false => exact absurd (.inr e) hn
    have h3 := List.all_eq_true.mp h2 d hd
    unfold isDigit at h3
    rw [Bool.and_eq_true] at h3
    exact ⟨of_decide_eq_true h3.1, of_decide_eq_true h3.2⟩
theorem signLength_bounds (row : B) : 0 ≤ signLength row ∧ signLength row ≤ 1 := by
  unfold signLength
  split
  · exact ⟨by decide, by decide⟩
  · exact ⟨by decide, by decide⟩
theorem decimalValue_bound {row : B} (h : isDecimal row = true) (hl : (row.length : Int) - signLength row ≤ 30) : (decimalValue row).natAbs < 10 ^ 30 := by
  obtain ⟨a, b⟩ := decFold_bound (digitsOf row) 0 (Int.le_refl 0) (isDecimal_digits h)
  obtain ⟨s0, s1⟩ := signLength_bounds row
  have hd : (digitsOf row).length ≤ 30 := by
    unfold digitsOf
    rw [List.length_drop]
    omega
  have c : (10 : Int) ^ (digitsOf row).length ≤ 10 ^ 30 := by
    have : (10 : Nat) ^ (digitsOf row).length ≤ 10 ^ 30 := Nat.pow_le_pow_right (by decide) hd
    exact_mod_cast this
  have e30 : (10 : Int) ^ 30 = 1000000000000000000000000000000 := by decide
  have n30 : (10 : Nat) ^ 30 = 1000000000000000000000000000000 := by decide
  rw [n30]
  rw [e30] at c
  unfold decimalValue
  split
  · omega
  · omega
theorem cellRead_ok {f : B} {c : Cell} (h : cellRead f = (true, c)) : okC c := by
  unfold cellRead at h
  split at h
  · rename_i hd
    unfold numberRead at h
    split at h
    · exact absurd (Prod.mk.inj h).1 (by decide)
    · rename_i hl
      obtain rfl := (Prod.mk.inj h).2
      exact ⟨Nat.lt_trans (decimalValue_bound hd (by omega)) (by decide), by show 0 ≤ _; decide⟩
  · obtain ⟨h1, rfl⟩ := Prod.mk.inj h
    unfold isText at h1
    rw [Bool.and_eq_true] at h1
    have := of_decide_eq_true h1.1
    refine ⟨by show (0 : Int).natAbs < _; decide, ?_⟩
    show (cellText f).length ≤ 200
    omega
theorem cellsRead_ok : ∀ {fs : Lines} {cs : List Cell}, cellsReadGo fs = some cs → cs.length = fs.length ∧ ∀ c ∈ cs, okC c
  | [], cs, h => by
    obtain rfl : [] = cs := Option.some.inj h
    exact ⟨rfl, fun x hx => absurd hx List.not_mem_nil⟩
  | f :: r, cs, h => by
    unfold cellsReadGo at h
    split at h
    · cases h
    · rename_i c hc
      obtain ⟨ds, hd, rfl⟩ := Option.map_eq_some_iff.mp h
      obtain ⟨a, b⟩ := cellsRead_ok hd
      refine ⟨by rw [List.length_cons, List.length_cons, a], fun x hx => ?_⟩
      rcases List.mem_cons.mp hx with rfl | hx
      · exact cellRead_ok hc
      · exact b x hx
end R
end
section
set_option Elab.async false
set_option linter.all false
/-! The desk's items. -/
namespace R
theorem missing_false {s : Stock} {i : Int} (h : isMissing s i = false) : 0 ≤ i ∧ i < s.length := by
  unfold isMissing at h
  rw [Bool.or_eq_false_iff] at h
  have a := of_decide_eq_false h.1
  have b := of_decide_eq_false h.2
  omega
theorem itemOf_mem {s : Stock} {i : Int} (h : isMissing s i = false) : itemOf s i ∈ s := by
  obtain ⟨a, b⟩ := missing_false h
  unfold itemOf
  rw [List.getD_eq_getElem?_getD, List.getElem?_eq_getElem (show i.toNat < s.length by omega)]
  exact List.getElem_mem _
theorem table_of {x : Item} (h : itemOk x) (hk : kind x = 2) : tabOk (columnsOf x) (cellsOf x) ∧ x = .tab (columnsOf x) (cellsOf x) := by
  cases x with
  | tab n cs => exact ⟨h, rfl⟩
  | head l t => exact absurd (show (0 : Int) = 2 from hk) (by decide)
  | para t => exact absurd (show (1 : Int) = 2 from hk) (by decide)
  | plot n t => exact absurd (show (3 : Int) = 2 from hk) (by decide)
  | check n t => exact absurd (show (4 : Int) = 2 from hk) (by decide)
  | bars cs => exact absurd (show (5 : Int) = 2 from hk) (by decide)
theorem tableError_ok {s : Stock} {i : Int} (h : ¬ tableError s i < 0) : isMissing s i = false ∧ kind (itemOf s i) = 2 := by
  unfold tableError at h
  cases e : isMissing s i with
  | true => rw [e] at h; exact absurd (show (-11 : Int) < 0 by decide) h
  | false =>
    rw [e] at h
    refine ⟨rfl, ?_⟩
    by_cases k : kind (itemOf s i) = 2
    · exact k
    · rw [if_neg (by decide), if_pos k] at h
      exact absurd (by decide) h
/-- a call whole at the head of the rest -/
def callOk : B → Prop
  | [] => False
  | c :: r => 0 ≤ c ∧ c ≤ 16 ∧ arity c ≤ r.length ∧ (withList c = true → arity c < r.length ∧ 0 ≤ r.getD (arity c) 0 ∧ arity c + 1 + (r.getD (arity c) 0).toNat ≤ r.length)
def perfOk (s : Stock) (c : Int) (n g : B) : Prop := stockOk s ∧ 0 ≤ c ∧ c ≤ 16 ∧ arity c ≤ n.length ∧ g.length ≤ 99000 ∧ (performed s c n g).2.length ≤ 16777216
def runOk : Nat → Stock → B → Prop
  | _, _, [] => True
  | 0, _, _ :: _ => False
  | f + 1, s, x :: r => callOk (x :: r) ∧ perfOk s (call1 (x :: r)).a (call1 (x :: r)).b (call1 (x :: r)).c ∧ runOk f (performed s (call1 (x :: r)).a (call1 (x :: r)).b (call1 (x :: r)).c).1 ((x :: r).drop (call1 (x :: r)).d)
end R
namespace R
theorem width_ok {w : Int} (h : isNoWidth w = false) : 20 ≤ w ∧ w ≤ 120 := by
  unfold isNoWidth at h
  rw [Bool.or_eq_false_iff] at h
  have a := of_decide_eq_false h.1
  have b := of_decide_eq_false h.2
  omega
theorem call1_le {l : B} (h : callOk l) : 1 ≤ (call1 l).d ∧ (call1 l).d ≤ l.length := by
  cases l with
  | nil => exact h.elim
  | cons c r =>
    obtain ⟨_, _, h1, h2⟩ := h
    unfold call1
    dsimp only
    rw [List.length_cons]
    split
    · rename_i hw
      have := h2 hw
      show 1 ≤ arity c + 2 + _ ∧ arity c + 2 + _ ≤ _
      omega
    · show 1 ≤ arity c + 1 ∧ arity c + 1 ≤ _
      omega
end R
end
section
set_option Elab.async false
set_option linter.all false
/-! Printed cells and tables: the mirror is the specification. -/
namespace R
open Vanbkh (Bytes)
def cellR : Vanbkh.Cell → Cell
  | .number z => numberCell z
  | .text t => textCell (ofB t)
theorem ofB_getD (t : Bytes) (i : Nat) : (ofB t).getD i 0 = ((t.getD i 0).toNat : Int) := by
  unfold ofB
  rw [List.getD_eq_getElem?_getD, List.getD_eq_getElem?_getD, List.getElem?_map]
  cases t[i]? <;> rfl
theorem escapes_of (c : UInt8) : (escapes (c.toNat : Int)).isSome = Vanbkh.needsEscape c := by
  unfold escapes Vanbkh.needsEscape
  have h10 : ((c.toNat : Int) = 10) ↔ c = 10 := u8_is c 10 (by decide)
  have h34 : ((c.toNat : Int) = 34) ↔ c = 34 := u8_is c 34 (by decide)
  have h92 : ((c.toNat : Int) = 92) ↔ c = 92 := u8_is c 92 (by decide)
  have h124 : ((c.toNat : Int) = 124) ↔ c = 124 := u8_is c 124 (by decide)
  have h126 : ((c.toNat : Int) = 126) ↔ c = 126 := u8_is c 126 (by decide)
  by_cases a : c = 34
  · subst a; decide
  by_cases b : c = 92
  · subst b; decide
  by_cases d : c = 10
  · subst d; decide
  by_cases e : c = 124
  · subst e; decide
  by_cases f : c = 126
  · subst f; decide
  rw [if_neg (fun h => a (h34.mp h)), if_neg (fun h => b (h92.mp h)), if_neg (fun h => d (h10.mp h)), if_neg (fun h => e (h124.mp h)), if_neg (fun h => f (h126.mp h)),
    beq_false_of_ne a, beq_false_of_ne b, beq_false_of_ne d, beq_false_of_ne e, beq_false_of_ne f]
  rfl
theorem any_escapes (t : Bytes) : (ofB t).any (fun b => (escapes b).isSome) = t.any Vanbkh.needsEscape := by
  unfold ofB
  rw [List.any_map]
  congr 1
  funext c
  exact escapes_of c
theorem quoteByte_of (c : UInt8) : quoteByte (c.toNat : Int) = ofB (Vanbkh.escape c) := by
  have h10 : ((c.toNat : Int) = 10) ↔ c = 10 := u8_is c 10 (by decide)
  have h34 : ((c.toNat : Int) = 34) ↔ c = 34 := u8_is c 34 (by decide)
  have h92 : ((c.toNat : Int) = 92) ↔ c = 92 := u8_is c 92 (by decide)
  have h124 : ((c.toNat : Int) = 124) ↔ c = 124 := u8_is c 124 (by decide)
  have h126 : ((c.toNat : Int) = 126) ↔ c = 126 := u8_is c 126 (by decide)
  by_cases a : c = 34
  · subst a; decide
  by_cases b : c = 92
  · subst b; decide
  by_cases d : c = 10
  · subst d; decide
  by_cases e : c = 124
  · subst e; decide
  by_cases f : c = 126
  · subst f; decide
  unfold quoteByte escapes Vanbkh.escape
  rw [if_neg (fun h => a (h34.mp h)), if_neg (fun h => b (h92.mp h)), if_neg (fun h => d (h10.mp h)), if_neg (fun h => e (h124.mp h)), if_neg (fun h => f (h126.mp h)),
    beq_false_of_ne a, beq_false_of_ne b, beq_false_of_ne d, beq_false_of_ne e, beq_false_of_ne f]
  rfl
theorem quoted_of (t : Bytes) : quoted (ofB t) = ofB ([34] ++ t.flatMap Vanbkh.escape ++ [34]) := by
  unfold quoted
  rw [ofB_append, ofB_append, ofB_flatMap]
  show 34 :: (t.map _).flatMap quoteByte ++ [34] = _
  rw [List.flatMap_map]
  show (34 :: (t.flatMap fun c => quoteByte (c.toNat : Int))) ++ [34] = _
  rw [flatMap_eq (g := fun c => ofB (Vanbkh.escape c)) fun c _ => quoteByte_of c]
  rfl
theorem getLast_getD (t : Bytes) (h : t ≠ []) : t.getLast? = some (t.getD (t.length - 1) 0) := by
  rw [List.getLast?_eq_getElem?, List.getD_eq_getElem?_getD]
  have : t.length - 1 < t.length := by
    have := List.length_pos_iff.mpr h
    omega
  rw [List.getElem?_eq_getElem this]
  rfl
theorem isPlain_of (t : Bytes) : isPlain (ofB t) = Vanbkh.isPlain t := by
  unfold isPlain Vanbkh.isPlain
  rw [any_escapes, isDecimal_of, ofB_length, ofB_getD, ofB_getD]
  cases t with
  | nil => rfl
  | cons x r =>
    have hl := getLast_getD (x :: r) (by simp)
    rw [hl]
    generalize (x :: r).getD ((x :: r).length - 1) 0 = y
    have hx : ((x.toNat : Int) = 32) ↔ x = 32 := u8_is x 32 (by decide)
    have hy : ((y.toNat : Int) = 32) ↔ y = 32 := u8_is y 32 (by decide)
    show (if (x :: r).length = 0 ∨ ((x.toNat : Int)) = 32 ∨ ((y.toNat : Int)) = 32 then false else _) = (!false && !(x :: r).any Vanbkh.needsEscape && (some x != some 32) && (some y != some 32) && (Vanbkh.parseNumber (x :: r)).isNone)
    by_cases h1 : x = 32
    · rw [if_pos (.inr (.inl (hx.mpr h1))), h1]
      simp
    by_cases h2 : y = 32
    · rw [if_pos (.inr (.inr (hy.mpr h2))), h2]
      simp
    rw [if_neg (by
      rintro (h | h | h)
      · simp at h
      · exact h1 (hx.mp h)
      · exact h2 (hy.mp h))]
    have e1 : (some x != some (32 : UInt8)) = true := by simp [bne, h1]
    have e2 : (some y != some (32 : UInt8)) = true := by simp [bne, h2]
    rw [e1, e2]
    cases (x :: r).any Vanbkh.needsEscape with
    | true => rfl
    | false => cases Vanbkh.parseNumber (x :: r) <;> rfl
theorem printed_of (c : Vanbkh.Cell) : printed (cellR c) = ofB (Vanbkh.printCell c) := by
  cases c with
  | number z => exact decimal_of z
  | text t =>
    show (if (1 : Int) = 0 then _ else if isPlain (ofB t) = true then ofB t else quoted (ofB t)) = ofB (if Vanbkh.isPlain t = true then t else [34] ++ t.flatMap Vanbkh.escape ++ [34])
    rw [if_neg (by decide), isPlain_of, quoted_of]
    split <;> rfl
theorem isNumber_of (c : Vanbkh.Cell) : isNumber (cellR c) = Vanbkh.isNumber c := by cases c <;> rfl
theorem cellR_inj : ∀ {a b : Vanbkh.Cell}, cellR a = cellR b → a = b
  | .number x, .number y, h => by injection h with h1 h2 h3; rw [h2]
  | .number x, .text y, h => by injection h with h1 h2 h3; cases h1
  | .text x, .number y, h => by injection h with h1 h2 h3; cases h1
  | .text x, .text y, h => by injection h with h1 h2 h3; rw [ofB_inj h3]
/-! ### rows of one length -/
section
variable {α β : Type}
def even (n : Nat) (rows : List (List α)) : Prop := ∀ r ∈ rows, r.length = n
theorem even_cons {n : Nat} {r : List α} {rows : List (List α)} (h : even n (r :: rows)) : r.length = n ∧ even n rows := ⟨h r (List.mem_cons_self ..), fun x hx => h x (List.mem_cons_of_mem _ hx)⟩
theorem flatten_len {n : Nat} : ∀ {rows : List (List α)}, even n rows → rows.flatten.length = rows.length * n
  | [], _ => by simp
  | r :: s, h => by
    obtain ⟨h1, h2⟩ := even_cons h
    rw [List.flatten_cons, List.length_append, h1, flatten_len h2, List.length_cons, Nat.succ_mul]
    omega
theorem stride_flat {n k : Nat} (hk : k < n) : ∀ {rows : List (List α)}, even n rows → stride k n rows.flatten = rows.filterMap fun r => r[k]?
  | [], _ => stride_nil k n (by omega)
  | r :: s, h => by
    obtain ⟨h1, h2⟩ := even_cons h
    rw [List.flatten_cons, stride_row k n hk r s.flatten h1, stride_flat hk h2, List.filterMap_cons, List.getElem?_eq_getElem (by omega)]
theorem row_flat {n : Nat} : ∀ {rows : List (List α)} (i : Nat), even n rows → (rows.flatten.drop (i * n)).take n = rows.getD i []
  | [], i, _ => by simp
  | r :: s, 0, h => by
    obtain ⟨h1, h2⟩ := even_cons h
    rw [Nat.zero_mul, List.drop_zero, List.flatten_cons, List.take_append_of_le_length (by omega), ← h1, List.take_length]
    rfl
  | r :: s, i + 1, h => by
    obtain ⟨h1, h2⟩ := even_cons h
    rw [Nat.succ_mul, List.flatten_cons, Nat.add_comm, ← List.drop_drop, List.drop_left' h1, row_flat i h2]
    rfl
end
theorem rowCells_flat {n : Nat} {rows : List (List Cell)} (h : even n rows) (i : Nat) : rowCells (n : Int) rows.flatten (i : Int) = rows.getD i [] := by
  unfold rowCells
  rw [show ((i : Int) * (n : Int)).toNat = i * n by rw [← Int.natCast_mul, Int.toNat_natCast], show (((i : Int) + 1) * (n : Int)).toNat = i * n + n by
    rw [show ((i : Int) + 1) * (n : Int) = ((i * n + n : Nat) : Int) by rw [Int.add_mul, Int.one_mul, Int.natCast_add, Int.natCast_mul], Int.toNat_natCast], show i * n + n - i * n = n by omega]
  exact row_flat i h
theorem rowTotal_flat {n : Nat} (hn : 0 < n) {rows : List (List Cell)} (h : even n rows) : rowTotal (n : Int) rows.flatten = rows.length := by
  unfold rowTotal
  rw [flatten_len h, Int.natCast_mul]
  exact Int.mul_ediv_cancel _ (by omega)
/-! ### tables -/
def headR (t : Vanbkh.Table) : List Cell := t.headers.map fun h => textCell (ofB h)
def rowsR (t : Vanbkh.Table) : List (List Cell) := headR t :: t.rows.map fun r => r.map cellR
def tabR (t : Vanbkh.Table) : List Cell := (rowsR t).flatten
structure goodT (t : Vanbkh.Table) : Prop where
  pos : 1 ≤ t.headers.length
  rows : ∀ r ∈ t.rows, r.length = t.headers.length
theorem headR_len (t : Vanbkh.Table) : (headR t).length = t.headers.length := List.length_map _
theorem rowsR_even {t : Vanbkh.Table} (h : goodT t) : even t.headers.length (rowsR t) := fun r hr => by
  rcases List.mem_cons.mp hr with rfl | hr
  · exact headR_len t
  · obtain ⟨s, hs, rfl⟩ := List.mem_map.mp hr
    rw [List.length_map]
    exact h.rows s hs
theorem map_filterMap_get {α β : Type} (f : α → β) (k : Nat) : ∀ rows : List (List α), (rows.map fun r => r.map f).filterMap (fun r => r[k]?) = (rows.filterMap fun r => r[k]?).map f
  | [] => rfl
  | r :: s => by
    rw [List.map_cons, List.filterMap_cons, List.filterMap_cons, List.getElem?_map, map_filterMap_get f k s]
    cases r[k]? <;> rfl
theorem naturalWidth_of {t : Vanbkh.Table} (h : goodT t) {k : Nat} (hk : k < t.headers.length) : naturalWidth (t.headers.length : Int) (tabR t) (k : Int) = (Vanbkh.naturalWidth t k : Int) := by
  unfold naturalWidth tabR
  rw [Int.toNat_natCast, Int.toNat_natCast, stride_flat hk (rowsR_even h)]
  unfold rowsR
  rw [List.filterMap_cons]
  have e1 : (headR t)[k]? = some (textCell (ofB t.headers[k])) := by
    unfold headR
    rw [List.getElem?_map, List.getElem?_eq_getElem hk]
    rfl
  rw [e1, map_filterMap_get]
  show lmax (((printed (textCell (ofB t.headers[k]))).length : Int) :: (List.map cellR _).map fun c => ((printed c).length : Int)) = _
  unfold Vanbkh.naturalWidth Vanbkh.column
  rw [List.getElem?_eq_getElem hk, ← lmax_nat, List.map_cons, List.map_map, List.map_map]
  congr 2
  · rw [show textCell (ofB t.headers[k]) = cellR (.text t.headers[k]) from rfl, printed_of, ofB_length]
    rfl
  · refine List.map_congr_left fun c _ => ?_
    show ((printed (cellR c)).length : Int) = _
    rw [printed_of, ofB_length]
    rfl
def upI (ws : List Nat) : B := ws.map fun n : Nat => (n : Int)
theorem naturalWidths_of {t : Vanbkh.Table} (h : goodT t) {m : Nat} (hm : m ≤ t.headers.length) : naturalWidths (t.headers.length : Int) (tabR t) (m : Int) = upI ((Vanbkh.naturalWidths t).take m) := by
  unfold naturalWidths upI Vanbkh.naturalWidths
  rw [Int.toNat_natCast, ← List.map_take, List.map_map, List.take_range, Nat.min_eq_left hm]
  refine List.map_congr_left fun k hk => ?_
  have := List.mem_range.mp hk
  exact naturalWidth_of h (by omega)
theorem visible_of (n w : Nat) (hw : 1 ≤ w) : visibleTotal (n : Int) (w : Int) = (Vanbkh.visibleColumns w n : Int) := by
  unfold visibleTotal Vanbkh.visibleColumns
  rw [show ((w : Int) - 1) / 6 = (((w - 1) / 6 : Nat) : Int) by omega, minI_nat]
/-! ### narrowing -/
theorem upI_len (ws : List Nat) : (upI ws).length = ws.length := List.length_map _
theorem upI_sum : ∀ ws : List Nat, (upI ws).sum = (ws.sum : Int)
  | [] => rfl
  | x :: r => by
    show ((x : Int) :: upI r).sum = _
    rw [List.sum_cons, List.sum_cons, upI_sum r, Int.natCast_add]
theorem set_place : ∀ (ws : List Nat) (m : Nat), 1 ≤ m → m ∈ ws → (upI ws).set (placeOf (m : Int) (upI ws)) ((upI ws).getD (placeOf (m : Int) (upI ws)) 0 - 1) = upI (Vanbkh.narrowFirst m ws)
  | x :: r, m, hm, h => by
    show ((x : Int) :: upI r).set (if (x : Int) = m then 0 else placeOf (m : Int) (upI r) + 1) (((x : Int) :: upI r).getD (if (x : Int) = m then 0 else placeOf (m : Int) (upI r) + 1) 0 - 1) = upI (if (x == m) = true then (x - 1) :: r else x :: Vanbkh.narrowFirst m r)
    by_cases c : x = m
    · rw [if_pos (show (x : Int) = m by omega), if_pos (beq_iff_eq.mpr c)]
      show ((x : Int) - 1) :: upI r = ((x - 1 : Nat) : Int) :: upI r
      rw [show ((x - 1 : Nat) : Int) = (x : Int) - 1 by omega]
    · rw [if_neg (show ¬ (x : Int) = m by omega), if_neg (fun e => c (beq_iff_eq.mp e))]
      show (x : Int) :: (upI r).set _ ((upI r).getD _ 0 - 1) = (x : Int) :: upI _
      rw [set_place r m hm (by
        rcases List.mem_cons.mp h with e | e
        · exact absurd e.symm c
        · exact e)]
theorem maximum_mem {ws : List Nat} (h : 1 ≤ Vanbkh.maximum ws) : Vanbkh.maximum ws ∈ ws := by
  have ne : upI ws ≠ [] := fun e => by
    cases ws with
    | nil => exact absurd h (by decide)
    | cons => cases e
  have m := lmax_mem ne
  rw [show upI ws = ws.map fun n : Nat => (n : Int) from rfl, lmax_nat] at m
  obtain ⟨x, hx, e⟩ := List.mem_map.mp m
  have : x = Vanbkh.maximum ws := by omega
  rw [← this]
  exact hx
theorem narrow1_of {ws : List Nat} (h : 1 ≤ Vanbkh.maximum ws) : narrow1 (upI ws) = upI (Vanbkh.narrowFirst (Vanbkh.maximum ws) ws) := by
  unfold narrow1
  rw [show lmax (upI ws) = (Vanbkh.maximum ws : Int) from lmax_nat ws]
  exact set_place ws _ h (maximum_mem h)
theorem narrowFirst_len (m : Nat) : ∀ ws : List Nat, (Vanbkh.narrowFirst m ws).length = ws.length
  | [] => rfl
  | x :: r => by
    unfold Vanbkh.narrowFirst
    split
    · rfl
    · rw [List.length_cons, List.length_cons, narrowFirst_len m r]
theorem narrowFirst_sum (m : Nat) : ∀ ws : List Nat, 1 ≤ m → m ∈ ws → (Vanbkh.narrowFirst m ws).sum + 1 = ws.sum
  | x :: r, hm, h => by
    unfold Vanbkh.narrowFirst
    by_cases c : x = m
    · rw [if_pos (beq_iff_eq.mpr c), List.sum_cons, List.sum_cons]
      omega
    · rw [if_neg (fun e => c (beq_iff_eq.mp e)), List.sum_cons, List.sum_cons]
      have := narrowFirst_sum m r hm (by
        rcases List.mem_cons.mp h with e | e
        · exact absurd e.symm c
        · exact e)
      omega
theorem times_front {α : Type} (f : α → α) : ∀ (n : Nat) (x : α), times f (n + 1) x = times f n (f x)
  | 0, _ => rfl
  | n + 1, x => congrArg f (times_front f n x)
theorem sum_zero : ∀ {ws : List Nat}, Vanbkh.maximum ws = 0 → ws.sum = 0 := by
  intro ws h
  have z : ∀ x ∈ ws, x = 0 := fun x hx => by
    have := le_lmax (l := upI ws) (y := (x : Int)) (List.mem_map.mpr ⟨x, hx, rfl⟩)
    rw [show lmax (upI ws) = (Vanbkh.maximum ws : Int) from lmax_nat ws] at this
    omega
  clear h
  induction ws with
  | nil => rfl
  | cons x r ih =>
    rw [List.sum_cons, z x (List.mem_cons_self ..), ih fun y hy => z y (List.mem_cons_of_mem _ hy)]
theorem narrow_of (w : Nat) : ∀ (f : Nat) (ws : List Nat), 3 * ws.length + 1 ≤ w → Vanbkh.lineWidth ws ≤ w + f → times narrow1 (Vanbkh.lineWidth ws - w) (upI ws) = upI (Vanbkh.narrow w f ws)
  | 0, ws, h, hf => by
    rw [show Vanbkh.lineWidth ws - w = 0 by omega]
    rfl
  | f + 1, ws, h, hf => by
    unfold Vanbkh.narrow
    by_cases c : Vanbkh.lineWidth ws ≤ w
    · rw [if_pos c, show Vanbkh.lineWidth ws - w = 0 by omega]
      rfl
    · rw [if_neg c]
      have e0 : Vanbkh.lineWidth ws = ws.sum + 3 * ws.length + 1 := rfl
      have hm : 1 ≤ Vanbkh.maximum ws := by
        by_cases z : Vanbkh.maximum ws = 0
        · have := sum_zero z
          omega
        · omega
      have hs := narrowFirst_sum (Vanbkh.maximum ws) ws hm (maximum_mem hm)
      have hl := narrowFirst_len (Vanbkh.maximum ws) ws
      have e1 : Vanbkh.lineWidth (Vanbkh.narrowFirst (Vanbkh.maximum ws) ws) = (Vanbkh.narrowFirst (Vanbkh.maximum ws) ws).sum + 3 * (Vanbkh.narrowFirst (Vanbkh.maximum ws) ws).length + 1 := rfl
      rw [← narrow_of w f _ (by rw [hl]; exact h) (by omega), show Vanbkh.lineWidth ws - w = (Vanbkh.lineWidth (Vanbkh.narrowFirst (Vanbkh.maximum ws) ws) - w) + 1 by omega, times_front, narrow1_of hm]
theorem narrowed_of {w : Nat} {ws : List Nat} (h : 3 * ws.length + 1 ≤ w) : narrowed (upI ws) (w : Int) = upI (Vanbkh.narrow w (Vanbkh.lineWidth ws) ws) := by
  unfold narrowed
  rw [← narrow_of w (Vanbkh.lineWidth ws) ws h (by omega)]
  congr 1
  unfold excess
  rw [upI_sum, upI_len]
  have e0 : Vanbkh.lineWidth ws = ws.sum + 3 * ws.length + 1 := rfl
  omega
theorem fitting_of {t : Vanbkh.Table} (h : goodT t) {w : Nat} (hw : 20 ≤ w) : fittingWidths (t.headers.length : Int) (tabR t) (w : Int) = upI (Vanbkh.columnWidths w t) := by
  unfold fittingWidths Vanbkh.columnWidths
  have hv : Vanbkh.visibleColumns w t.headers.length ≤ t.headers.length := Nat.min_le_left _ _
  have hv2 : Vanbkh.visibleColumns w t.headers.length ≤ (w - 1) / 6 := Nat.min_le_right _ _
  rw [visible_of _ _ (by omega), naturalWidths_of h hv, narrowed_of]
  rw [List.length_take]
  omega
/-! ### lines -/
theorem ruler_of (ws : List Nat) : ruler (upI ws) = ofB (Vanbkh.ruler ws) := by
  unfold ruler Vanbkh.ruler upI
  rw [ofB_append, ofB_flatMap, List.flatMap_map]
  congr 1
  refine flatMap_eq fun n _ => ?_
  show 43 :: repeated 45 ((n : Int) + 2) = 43 :: ofB (List.replicate (n + 2) 45)
  rw [show (n : Int) + 2 = ((n + 2 : Nat) : Int) by omega, ofB_replicate]
  rfl
theorem filledCell_of (c : Vanbkh.Cell) (n : Nat) (hn : 1 ≤ n) : filledCell (cellR c) (n : Int) = ofB (Vanbkh.alignCell n c) := by
  unfold filledCell Vanbkh.alignCell
  rw [isNumber_of, printed_of, shortened_of _ _ (by omega), filledBefore_of, filledBehind_of, Int.toNat_natCast]
  split <;> rfl
theorem tableRow_of (cs : List Vanbkh.Cell) : ∀ (ws : List Nat), (∀ n ∈ ws, 1 ≤ n) → tableRow (cs.map cellR) (upI ws) = ofB (Vanbkh.rowLine ws cs) := by
  intro ws hw
  unfold tableRow Vanbkh.rowLine
  rw [ofB_append, ofB_flatMap]
  congr 1
  induction ws generalizing cs with
  | nil => cases cs <;> rfl
  | cons n r ih =>
    cases cs with
    | nil => rfl
    | cons c s =>
      show ((cellR c, (n : Int)) :: (s.map cellR).zip (upI r)).flatMap _ = ((n, c) :: r.zip s).flatMap _
      rw [List.flatMap_cons, List.flatMap_cons, ih s fun m hm => hw m (List.mem_cons_of_mem _ hm)]
      congr 1
      show [124, 32] ++ filledCell (cellR c) (n : Int) ++ [32] = ofB ([124, 32] ++ Vanbkh.alignCell n c ++ [32])
      rw [filledCell_of c n (hw n (List.mem_cons_self ..)), ofB_append, ofB_append]
      rfl
theorem framed_of {t : Vanbkh.Table} (h : goodT t) {ws : List Nat} (hw : ∀ n ∈ ws, 1 ≤ n) : framed (t.headers.length : Int) (tabR t) (upI ws) = (Vanbkh.tableWith ws t).map ofB := by
  unfold framed Vanbkh.tableWith
  have hr : ∀ i : Nat, rowCells (t.headers.length : Int) (tabR t) (i : Int) = (rowsR t).getD i [] := fun i => rowCells_flat (rowsR_even h) i
  have h0 : rowCells (t.headers.length : Int) (tabR t) 0 = (t.headers.map Vanbkh.Cell.text).map cellR := by
    have := hr 0
    rw [show ((0 : Nat) : Int) = 0 from rfl] at this
    rw [this, List.map_map]
    rfl
  rw [h0, tableRow_of _ ws hw, ruler_of, show rowTotal (t.headers.length : Int) (tabR t) = ((rowsR t).length : Int) from rowTotal_flat (by have := h.pos; omega) (rowsR_even h)]
  rw [List.map_append, List.map_append, List.map_map]
  congr 2
  show (List.range (((t.rows.map fun r => r.map cellR).length + 1 : Nat) - 1 : Int).toNat).map _ = _
  rw [List.length_map, show (((t.rows.length + 1 : Nat) : Int) - 1).toNat = t.rows.length by omega]
  refine List.ext_getElem (by rw [List.length_map, List.length_map, List.length_range]) fun i h1 h2 => ?_
  rw [List.length_map] at h2
  rw [List.getElem_map, List.getElem_map, List.getElem_range]
  show tableRow (rowCells _ _ (1 + (i : Int))) (upI ws) = ofB (Vanbkh.rowLine ws t.rows[i])
  rw [show 1 + (i : Int) = ((i + 1 : Nat) : Int) by omega, hr]
  show tableRow ((t.rows.map fun r => r.map cellR).getD i []) (upI ws) = _
  rw [List.getD_eq_getElem?_getD, List.getElem?_map, List.getElem?_eq_getElem h2]
  exact tableRow_of _ ws hw
end R
end
section
set_option Elab.async false
set_option linter.all false
/-! Items, the document, its pages: the mirror is the specification. -/
namespace R
open Vanbkh (Bytes)
theorem printCell_pos (c : Vanbkh.Cell) : 1 ≤ (Vanbkh.printCell c).length := by
  have h : Vanbkh.printCell c ≠ [] := by
    cases c with
    | number z => exact decimal_ne z
    | text t =>
      show (if Vanbkh.isPlain t = true then t else [34] ++ t.flatMap Vanbkh.escape ++ [34]) ≠ []
      split
      · rename_i hp
        intro e
        rw [e] at hp
        exact absurd hp (by decide)
      · intro e
        have := congrArg List.length e
        simp at this
  exact List.length_pos_iff.mpr h
theorem naturalWidth_pos {t : Vanbkh.Table} {k : Nat} (hk : k < t.headers.length) : 1 ≤ Vanbkh.naturalWidth t k := by
  unfold Vanbkh.naturalWidth
  rw [List.getElem?_eq_getElem hk]
  have h1 := printCell_pos (.text t.headers[k])
  have h2 := le_lmax (l := upI ((Vanbkh.printText t.headers[k]).length :: (Vanbkh.column t k).map fun c => (Vanbkh.printCell c).length)) (y := ((Vanbkh.printText t.headers[k]).length : Int)) (List.mem_cons_self ..)
  rw [show lmax (upI ((Vanbkh.printText t.headers[k]).length :: (Vanbkh.column t k).map fun c => (Vanbkh.printCell c).length)) = (Vanbkh.maximum _ : Int) from lmax_nat _] at h2
  have h1 : 1 ≤ (Vanbkh.printText t.headers[k]).length := h1
  show 1 ≤ Vanbkh.maximum ((Vanbkh.printText t.headers[k]).length :: _)
  omega
theorem naturalWidths_pos {t : Vanbkh.Table} : ∀ n ∈ Vanbkh.naturalWidths t, 1 ≤ n := fun n hn => by
  obtain ⟨k, hk, rfl⟩ := List.mem_map.mp hn
  exact naturalWidth_pos (List.mem_range.mp hk)
theorem narrowFirst_pos (m : Nat) (hm : 2 ≤ m) : ∀ ws : List Nat, (∀ n ∈ ws, 1 ≤ n) → ∀ n ∈ Vanbkh.narrowFirst m ws, 1 ≤ n
  | [], _, n, hn => absurd hn List.not_mem_nil
  | x :: r, h, n, hn => by
    unfold Vanbkh.narrowFirst at hn
    split at hn
    · rename_i c
      have := beq_iff_eq.mp c
      rcases List.mem_cons.mp hn with rfl | hn
      · omega
      · exact h n (List.mem_cons_of_mem _ hn)
    · rcases List.mem_cons.mp hn with rfl | hn
      · exact h n (List.mem_cons_self ..)
      · exact narrowFirst_pos m hm r (fun k hk => h k (List.mem_cons_of_mem _ hk)) n hn
theorem sum_le_maximum (ws : List Nat) : ws.sum ≤ Vanbkh.maximum ws * ws.length := by
  have h := sum_le_max (upI ws) (Vanbkh.maximum ws : Int) fun x hx => by
    have := le_lmax hx
    rw [show lmax (upI ws) = (Vanbkh.maximum ws : Int) from lmax_nat ws] at this
    exact this
  rw [upI_sum, upI_len, ← Int.natCast_mul] at h
  omega
theorem narrow_pos (w : Nat) : ∀ (f : Nat) (ws : List Nat), 4 * ws.length + 1 ≤ w → (∀ n ∈ ws, 1 ≤ n) → ∀ n ∈ Vanbkh.narrow w f ws, 1 ≤ n
  | 0, ws, _, h => h
  | f + 1, ws, hw, h => by
    unfold Vanbkh.narrow
    split
    · exact h
    · rename_i c
      have e0 : Vanbkh.lineWidth ws = ws.sum + 3 * ws.length + 1 := rfl
      have hm : 2 ≤ Vanbkh.maximum ws := by
        by_cases z : Vanbkh.maximum ws ≤ 1
        · have h1 := sum_le_maximum ws
          have h2 := Nat.mul_le_mul_right ws.length z
          omega
        · omega
      exact narrow_pos w f _ (by rw [narrowFirst_len]; exact hw) (narrowFirst_pos _ hm ws h)
theorem columnWidths_pos {t : Vanbkh.Table} {w : Nat} (hw : 20 ≤ w) : ∀ n ∈ Vanbkh.columnWidths w t, 1 ≤ n := by
  unfold Vanbkh.columnWidths
  have hv2 : Vanbkh.visibleColumns w t.headers.length ≤ (w - 1) / 6 := Nat.min_le_right _ _
  refine narrow_pos w _ _ ?_ fun n hn => naturalWidths_pos n (List.mem_of_mem_take hn)
  rw [List.length_take]
  omega
theorem narrow_len (w : Nat) : ∀ (f : Nat) (ws : List Nat), (Vanbkh.narrow w f ws).length = ws.length
  | 0, _ => rfl
  | f + 1, ws => by
    unfold Vanbkh.narrow
    split
    · rfl
    · rw [narrow_len w f, narrowFirst_len]
theorem columnWidths_len (t : Vanbkh.Table) (w : Nat) : (Vanbkh.columnWidths w t).length ≤ t.headers.length := by
  unfold Vanbkh.columnWidths
  rw [narrow_len, List.length_take]
  unfold Vanbkh.naturalWidths
  rw [List.length_map, List.length_range]
  omega
theorem tableLines_of {t : Vanbkh.Table} (h : goodT t) {w : Nat} (hw : 20 ≤ w) : tableLines (t.headers.length : Int) (tabR t) (w : Int) = (Vanbkh.tableLines w t).map ofB := by
  unfold tableLines Vanbkh.tableLines
  dsimp only
  rw [fitting_of h hw, framed_of h (columnWidths_pos hw), upI_len, List.map_append]
  have hl := columnWidths_len t w
  by_cases c : (Vanbkh.columnWidths w t).length = t.headers.length
  · rw [if_pos (by omega), if_neg (by omega)]
    simp
  · rw [if_neg (by omega), if_pos (by omega)]
    congr 1
    show [_] = [ofB _]
    rw [ofB_append, ofB_append, ← decimal_of, ← signs_ascii _ (by decide), ← signs_ascii _ (by decide), Int.ofNat_sub hl]
theorem joined_of : ∀ ls : List Bytes, joined (ls.map ofB) = ofB (Vanbkh.join [10] ls)
  | [] => rfl
  | [x] => rfl
  | x :: y :: r => by
    show ofB x ++ 10 :: joined ((y :: r).map ofB) = ofB (x ++ [10] ++ Vanbkh.join [10] (y :: r))
    rw [joined_of (y :: r), ofB_append, ofB_append]
    simp
    rfl
theorem fullText_of {t : Vanbkh.Table} (h : goodT t) : fullText (t.headers.length : Int) (tabR t) = ofB (Vanbkh.tableText t) := by
  unfold fullText Vanbkh.tableText
  have hl : (Vanbkh.naturalWidths t).length = t.headers.length := by
    unfold Vanbkh.naturalWidths
    rw [List.length_map, List.length_range]
  rw [naturalWidths_of h (Nat.le_refl _), List.take_of_length_le (by omega), framed_of h naturalWidths_pos, joined_of]
/-! ### items -/
def toR : Vanbkh.Item → Item
  | .heading k t => .head (k : Int) (ofB t)
  | .paragraph t => .para (ofB t)
  | .table t => .tab (t.headers.length : Int) (tabR t)
  | .plot h ps => .plot (h : Int) (flat2 ps)
  | .check p t => .check (if p then 1 else 0) (ofB t)
  | .bars l => .bars (flatBars l)
def goodI : Vanbkh.Item → Prop
  | .heading k t => 1 ≤ k ∧ k ≤ 3 ∧ t.length ≤ 200
  | .paragraph t => t.length ≤ 200
  | .table t => goodT t ∧ Vanbkh.isValidTable t = true
  | .plot h ps => 1 ≤ h ∧ h ≤ 100 ∧ ps.length ≤ 500 ∧ small (flat2 ps)
  | .check _ t => t.length ≤ 200
  | .bars l => l.length ≤ 500 ∧ ∀ x ∈ l, x.1.length ≤ 200 ∧ 0 ≤ x.2 ∧ x.2 < 1180591620717411303424
theorem itemLines_of {x : Vanbkh.Item} (h : goodI x) {w : Nat} (hw : 20 ≤ w) : itemLines (toR x) (w : Int) = (Vanbkh.itemLines w x).map ofB := by
  cases x with
  | heading k t => exact headingLines_of k ⟨h.1, h.2.1⟩ t w (by omega)
  | paragraph t => exact paragraphLines_of t w (by omega)
  | table t => exact tableLines_of h.1 hw
  | plot hh ps => exact plotLines_of hh h.1 ps w (by omega)
  | check p t => exact checkLines_of p t w (by omega)
  | bars l => exact barLines_of l (fun x hx => (h.2 x hx).2.1) w (by omega)
theorem kind_of (x : Vanbkh.Item) : kind (toR x) = Vanbkh.kindOf x := by cases x <;> rfl
theorem document_of {w : Nat} (hw : 20 ≤ w) : ∀ l : List Vanbkh.Item, (∀ x ∈ l, goodI x) → document (l.map toR) (w : Int) = (Vanbkh.documentLines w l).map ofB
  | [], _ => rfl
  | [x], h => by
    show itemLines (toR x) (w : Int) ++ [] = _
    rw [List.append_nil]
    exact itemLines_of (h x (List.mem_cons_self ..)) hw
  | x :: y :: r, h => by
    have ih := document_of hw (y :: r) fun z hz => h z (List.mem_cons_of_mem _ hz)
    show itemLines (toR x) (w : Int) ++ ([] :: itemLines (toR y) (w : Int) ++ (r.map toR).flatMap _) = (Vanbkh.itemLines w x ++ [[]] ++ Vanbkh.documentLines w (y :: r)).map ofB
    rw [List.map_append, List.map_append, ← ih, itemLines_of (h x (List.mem_cons_self ..)) hw, List.append_assoc]
    rfl
/-! ### pages -/
theorem chunks_portions (hd : Lines) : ∀ (f : Nat) (l : List Bytes) (n : Nat), 0 < n → l ≠ [] → l.length ≤ f → (chunks (l.map ofB) (n : Int)).map (fun c => hd ++ c) = (Vanbkh.portions [] n f l).map fun c => hd ++ c.map ofB
  | 0, l, n, _, h1, h2 => absurd (List.length_eq_zero_iff.mp (by omega)) h1
  | f + 1, l, n, hn, h1, h2 => by
    unfold Vanbkh.portions
    by_cases c : l.length ≤ n
    · rw [if_pos c, chunks_one (l.map ofB) n (fun e => h1 (List.map_eq_nil_iff.mp e)) (by rw [List.length_map]; exact c)]
      rfl
    · rw [if_neg c, chunks_cons (l.map ofB) n hn (by rw [List.length_map]; omega), ← List.map_take, ← List.map_drop, List.map_cons, List.map_cons,
        chunks_portions hd f (l.drop n) n hn (fun e => by
          have := congrArg List.length e
          rw [List.length_drop, List.length_nil] at this
          omega) (by rw [List.length_drop]; omega)]
      rfl
theorem portions_head (hd : List Bytes) : ∀ (f : Nat) (l : List Bytes) (n : Nat), Vanbkh.portions hd n f l = (Vanbkh.portions [] n f l).map fun c => hd ++ c
  | 0, _, _ => rfl
  | f + 1, l, n => by
    unfold Vanbkh.portions
    split
    · rfl
    · rw [List.map_cons, portions_head hd f (l.drop n) n]
      rfl
theorem divided_of {x : Vanbkh.Item} (hx : goodI x) {w h : Nat} (hw : 20 ≤ w) (hh : 5 ≤ h) (hl : h < (Vanbkh.itemLines w x).length) :
    divided (kind (toR x)) (itemLines (toR x) (w : Int)) (h : Int) = (Vanbkh.splitItem w h x).map fun p => p.map ofB := by
  rw [itemLines_of hx hw, kind_of]
  generalize hg : Vanbkh.itemLines w x = l at hl
  have ne : l ≠ [] := fun e => by rw [e, List.length_nil] at hl; omega
  have plain : chunks (l.map ofB) (h : Int) = (Vanbkh.portions [] h l.length l).map fun p => p.map ofB := by
    have z := chunks_portions [] l.length l h (by omega) ne (Nat.le_refl _)
    rw [show (fun c : Lines => ([] : Lines) ++ c) = fun c => c from rfl, List.map_id'] at z
    exact z
  unfold divided
  cases x with
  | table t =>
    have split : Vanbkh.splitItem w h (.table t) = Vanbkh.portions (l.take 3) (h - 3) l.length (l.drop 3) := by
      show Vanbkh.portions ((Vanbkh.itemLines w (.table t)).take 3) (h - 3) (Vanbkh.itemLines w (.table t)).length ((Vanbkh.itemLines w (.table t)).drop 3) = _
      rw [hg]
    rw [if_pos (show Vanbkh.kindOf (.table t) = 2 from rfl), split]
    show (chunks ((l.map ofB).drop 3) ((h : Int) - 3)).map _ = (Vanbkh.portions (l.take 3) (h - 3) l.length (l.drop 3)).map _
    rw [← List.map_drop, ← List.map_take, show (h : Int) - 3 = ((h - 3 : Nat) : Int) by omega, portions_head, List.map_map,
      chunks_portions _ l.length (l.drop 3) (h - 3) (by omega) (fun e => by
        have := congrArg List.length e
        rw [List.length_drop, List.length_nil] at this
        omega) (by rw [List.length_drop]; omega)]
    refine List.map_congr_left fun c _ => ?_
    exact (List.map_append).symm
  | heading k t =>
    have split : Vanbkh.splitItem w h (.heading k t) = Vanbkh.portions [] h l.length l := by
      show Vanbkh.portions [] h (Vanbkh.itemLines w (.heading k t)).length (Vanbkh.itemLines w (.heading k t)) = _
      rw [hg]
    rw [if_neg (by show ¬ (0 : Int) = 2; decide), split]
    exact plain
  | paragraph t =>
    have split : Vanbkh.splitItem w h (.paragraph t) = Vanbkh.portions [] h l.length l := by
      show Vanbkh.portions [] h (Vanbkh.itemLines w (.paragraph t)).length (Vanbkh.itemLines w (.paragraph t)) = _
      rw [hg]
    rw [if_neg (by show ¬ (1 : Int) = 2; decide), split]
    exact plain
  | plot a b =>
    have split : Vanbkh.splitItem w h (.plot a b) = Vanbkh.portions [] h l.length l := by
      show Vanbkh.portions [] h (Vanbkh.itemLines w (.plot a b)).length (Vanbkh.itemLines w (.plot a b)) = _
      rw [hg]
    rw [if_neg (by show ¬ (3 : Int) = 2; decide), split]
    exact plain
  | check p t =>
    have split : Vanbkh.splitItem w h (.check p t) = Vanbkh.portions [] h l.length l := by
      show Vanbkh.portions [] h (Vanbkh.itemLines w (.check p t)).length (Vanbkh.itemLines w (.check p t)) = _
      rw [hg]
    rw [if_neg (by show ¬ (4 : Int) = 2; decide), split]
    exact plain
  | bars bl =>
    have split : Vanbkh.splitItem w h (.bars bl) = Vanbkh.portions [] h l.length l := by
      show Vanbkh.portions [] h (Vanbkh.itemLines w (.bars bl)).length (Vanbkh.itemLines w (.bars bl)) = _
      rw [hg]
    rw [if_neg (by show ¬ (5 : Int) = 2; decide), split]
    exact plain
def pgs (ps : List (List Bytes)) : List Lines := ps.map fun p => p.map ofB
theorem finished_of (d : List (List Bytes)) (c : List Bytes) : finished (pgs d) (c.map ofB) = pgs (if c.isEmpty then d else d ++ [c]) := by
  unfold finished
  cases c with
  | nil => rfl
  | cons x r =>
    rw [if_neg (by simp)]
    unfold pgs
    show _ = List.map _ (d ++ [x :: r])
    rw [List.map_append]
    rfl
theorem put_of {x : Vanbkh.Item} (hx : goodI x) {w h : Nat} (hw : 20 ≤ w) (hh : 5 ≤ h) (s : List (List Bytes) × List Bytes) :
    put (pgs s.1) (s.2.map ofB) (kind (toR x)) (itemLines (toR x) (w : Int)) (h : Int) = (pgs (Vanbkh.addToPages w h s x).1, (Vanbkh.addToPages w h s x).2.map ofB) := by
  obtain ⟨d, c⟩ := s
  have hil := itemLines_of hx hw
  have hdv := divided_of hx hw hh
  have hll : (itemLines (toR x) (w : Int)).length = (Vanbkh.itemLines w x).length := by rw [hil, List.length_map]
  unfold put
  dsimp only
  rw [hll, List.length_map]
  by_cases c0 : c = []
  · subst c0
    by_cases c1 : (Vanbkh.itemLines w x).length ≤ h
    · have e : Vanbkh.addToPages w h (d, []) x = (d, Vanbkh.itemLines w x) := by simp [Vanbkh.addToPages, c1]
      rw [if_pos ⟨rfl, by omega⟩, e, hil]
    · have e : Vanbkh.addToPages w h (d, []) x = (d ++ (Vanbkh.splitItem w h x).dropLast, (Vanbkh.splitItem w h x).getLast?.getD []) := by simp [Vanbkh.addToPages, c1]
      rw [if_neg (fun z => c1 (by omega)), if_neg (fun z => absurd z.1 (by decide)), if_neg (by omega), hdv (by omega), e]
      refine Prod.ext ?_ ?_
      · show pgs d ++ (List.map _ _).dropLast = pgs (d ++ _)
        unfold pgs
        rw [List.map_append, List.map_dropLast]
      · show (List.map _ _).getLastD [] = _
        rw [List.getLastD_eq_getLast?, List.getLast?_map]
        cases (Vanbkh.splitItem w h x).getLast? <;> rfl
  · have ce : c.isEmpty = false := by cases c with
      | nil => exact absurd rfl c0
      | cons => rfl
    have cl : 0 < c.length := List.length_pos_iff.mpr c0
    unfold Vanbkh.addToPages
    dsimp only
    rw [ce]
    rw [if_neg (fun z => by omega)]
    have hext : (c ++ [[]] ++ Vanbkh.itemLines w x).length = c.length + 1 + (Vanbkh.itemLines w x).length := by
      rw [List.length_append, List.length_append, List.length_singleton]
    simp only [Bool.false_eq_true, if_false]
    rw [hext]
    by_cases c1 : c.length + 1 + (Vanbkh.itemLines w x).length ≤ h
    · rw [if_pos ⟨cl, by omega⟩, if_pos c1, hil, List.map_append, List.map_append]
      rfl
    · rw [if_neg (fun z => by omega), if_neg c1]
      have hf := finished_of d c
      rw [ce] at hf
      simp only [Bool.false_eq_true, if_false] at hf
      rw [hf]
      by_cases c2 : (Vanbkh.itemLines w x).length ≤ h
      · rw [if_pos (by omega), if_pos c2, hil]
      · rw [if_neg (by omega), if_neg c2, hdv (by omega)]
        refine Prod.ext ?_ ?_
        · show pgs (d ++ [c]) ++ (List.map _ _).dropLast = pgs (d ++ [c] ++ _)
          unfold pgs
          rw [List.map_append, List.map_append, List.map_append, List.map_dropLast]
        · show (List.map _ _).getLastD [] = _
          rw [List.getLastD_eq_getLast?, List.getLast?_map]
          cases (Vanbkh.splitItem w h x).getLast? <;> rfl
theorem pages_of {w h : Nat} (hw : 20 ≤ w) (hh : 5 ≤ h) (l : List Vanbkh.Item) (hl : ∀ x ∈ l, goodI x) : pages (l.map toR) (w : Int) (h : Int) = pgs (Vanbkh.pages w h l) := by
  have key : ∀ (l : List Vanbkh.Item), (∀ x ∈ l, goodI x) → ∀ s : List (List Bytes) × List Bytes, (l.map toR).foldl (pageStep (w : Int) (h : Int)) (pgs s.1, s.2.map ofB) = (pgs (l.foldl (Vanbkh.addToPages w h) s).1, (l.foldl (Vanbkh.addToPages w h) s).2.map ofB) := by
    intro l
    induction l with
    | nil => intro _ s; rfl
    | cons x r ih =>
      intro hl s
      rw [List.map_cons, List.foldl_cons, List.foldl_cons]
      show List.foldl _ (put (pgs s.1) (s.2.map ofB) (kind (toR x)) (itemLines (toR x) (w : Int)) (h : Int)) _ = _
      rw [put_of (hl x (List.mem_cons_self ..)) hw hh s]
      exact ih (fun y hy => hl y (List.mem_cons_of_mem _ hy)) _
  unfold pages Vanbkh.pages pagesGo
  have z := key l hl ([], [])
  rw [show (pgs ([] : List (List Bytes)), ([] : List Bytes).map ofB) = (([] : List Lines), ([] : Lines)) from rfl] at z
  rw [z]
  exact finished_of _ _
/-! ### answers -/
theorem listed_of (l : List Bytes) : listed (l.map ofB) = Vanbkh.encodeLines l := by
  unfold listed Vanbkh.encodeLines
  rw [List.length_map, List.flatMap_map]
  congr 1
  refine flatMap_eq fun x _ => ?_
  show ((ofB x).length : Int) :: ofB x = _
  rw [ofB_length]
  rfl
theorem encCell_of (c : Vanbkh.Cell) : encCell (cellR c) = Vanbkh.encodeCell c := by
  cases c with
  | number z => rfl
  | text t =>
    show 1 :: ((ofB t).length : Int) :: ofB t = _
    rw [ofB_length]
    rfl
theorem encoded_of (t : Vanbkh.Table) : encoded (tabR t) = t.headers.flatMap (fun h => Vanbkh.encodeCell (.text h)) ++ t.rows.flatMap fun r => r.flatMap Vanbkh.encodeCell := by
  unfold encoded tabR rowsR
  rw [List.flatten_cons, List.flatMap_append]
  congr 1
  · unfold headR
    rw [List.flatMap_map]
    exact flatMap_eq fun h _ => encCell_of (.text h)
  · generalize t.rows = rows
    induction rows with
    | nil => rfl
    | cons r s ih =>
      rw [List.map_cons, List.flatten_cons, List.flatMap_append, ih, List.flatMap_cons, List.flatMap_map]
      congr 1
      exact flatMap_eq fun c _ => encCell_of c
end R
end
section
set_option Elab.async false
set_option linter.all false
/-! Sorting and selecting: the mirror is the specification. -/
namespace R
open Vanbkh (Bytes)
/-! ### two stable insertions -/
section
variable {α : Type}
/-- before the first that needs not stand ahead -/
def insB (lt : α → α → Bool) (x : α) : List α → List α
  | [] => [x]
  | q :: l => if lt q x = true then q :: insB lt x l else x :: q :: l
/-- behind all that are no greater -/
def insA (lt : α → α → Bool) (y : α) : List α → List α
  | [] => [y]
  | q :: l => if lt y q = true then y :: q :: l else q :: insA lt y l
structure Ord (lt : α → α → Bool) : Prop where
  trans : ∀ {a b c}, lt a b = true → lt b c = true → lt a c = true
  neg : ∀ {a b c}, lt a b = true → lt c b = false → lt a c = true
theorem ins_comm {lt : α → α → Bool} (o : Ord lt) (x y : α) : ∀ l : List α, insA lt y (insB lt x l) = insB lt x (insA lt y l)
  | [] => by
    unfold insB insA
    cases h : lt y x with
    | true =>
      rw [if_pos rfl]
      show _ = insB lt x [y]
      unfold insB
      rw [h, if_pos rfl]
      rfl
    | false =>
      rw [if_neg (by decide)]
      show _ = insB lt x [y]
      unfold insB
      rw [h, if_neg (by decide)]
      rfl
  | q :: l => by
    have ih := ins_comm o x y l
    cases h1 : lt q x with
    | true =>
      have e1 : insB lt x (q :: l) = q :: insB lt x l := by
        show (if lt q x = true then q :: insB lt x l else x :: q :: l) = _
        rw [h1, if_pos rfl]
      rw [e1]
      cases h2 : lt y q with
      | true =>
        have h3 := o.trans h2 h1
        have e2 : insA lt y (q :: insB lt x l) = y :: q :: insB lt x l := by unfold insA; rw [h2, if_pos rfl]
        have e3 : insA lt y (q :: l) = y :: q :: l := by unfold insA; rw [h2, if_pos rfl]
        have e4 : insB lt x (y :: q :: l) = y :: insB lt x (q :: l) := by
          show (if lt y x = true then _ else _) = _
          rw [h3, if_pos rfl]
        rw [e2, e3, e4, e1]
      | false =>
        have e2 : insA lt y (q :: insB lt x l) = q :: insA lt y (insB lt x l) := by
          show (if lt y q = true then _ else _) = _
          rw [h2, if_neg (by decide)]
        have e3 : insA lt y (q :: l) = q :: insA lt y l := by
          show (if lt y q = true then _ else _) = _
          rw [h2, if_neg (by decide)]
        have e4 : insB lt x (q :: insA lt y l) = q :: insB lt x (insA lt y l) := by
          show (if lt q x = true then _ else _) = _
          rw [h1, if_pos rfl]
        rw [e2, e3, e4, ih]
    | false =>
      have e1 : insB lt x (q :: l) = x :: q :: l := by unfold insB; rw [h1, if_neg (by decide)]
      rw [e1]
      cases h2 : lt y x with
      | true =>
        have h3 := o.neg h2 h1
        have e2 : insA lt y (x :: q :: l) = y :: x :: q :: l := by
          show (if lt y x = true then _ else _) = _
          rw [h2, if_pos rfl]
        have e3 : insA lt y (q :: l) = y :: q :: l := by
          show (if lt y q = true then _ else _) = _
          rw [h3, if_pos rfl]
        have e4 : insB lt x (y :: q :: l) = y :: insB lt x (q :: l) := by
          show (if lt y x = true then _ else _) = _
          rw [h2, if_pos rfl]
        rw [e2, e3, e4, e1]
      | false =>
        have e2 : insA lt y (x :: q :: l) = x :: insA lt y (q :: l) := by
          show (if lt y x = true then _ else _) = _
          rw [h2, if_neg (by decide)]
        rw [e2]
        cases h3 : lt y q with
        | true =>
          have e3 : insA lt y (q :: l) = y :: q :: l := by
            show (if lt y q = true then _ else _) = _
            rw [h3, if_pos rfl]
          rw [e3]
          show _ = if lt y x = true then _ else _
          rw [h2, if_neg (by decide)]
        | false =>
          have e3 : insA lt y (q :: l) = q :: insA lt y l := by
            show (if lt y q = true then _ else _) = _
            rw [h3, if_neg (by decide)]
          rw [e3]
          show _ = if lt q x = true then _ else _
          rw [h1, if_neg (by decide)]
theorem foldA_B {lt : α → α → Bool} (o : Ord lt) (x : α) : ∀ (ys l : List α), ys.foldl (fun l y => insA lt y l) (insB lt x l) = insB lt x (ys.foldl (fun l y => insA lt y l) l)
  | [], _ => rfl
  | y :: r, l => by
    rw [List.foldl_cons, List.foldl_cons, ins_comm o, foldA_B o x r]
theorem fold_sort {lt : α → α → Bool} (o : Ord lt) : ∀ l : List α, l.foldl (fun l y => insA lt y l) [] = l.foldr (insB lt) []
  | [] => rfl
  | x :: r => by
    rw [List.foldl_cons, List.foldr_cons]
    show r.foldl _ (insB lt x []) = _
    rw [foldA_B o x r, fold_sort o r]
/-- sorted: none stands behind one that is greater -/
def Srt (lt : α → α → Bool) (l : List α) : Prop := l.Pairwise fun a b => lt b a = false
theorem insA_mem {lt : α → α → Bool} {y z : α} : ∀ {l : List α}, z ∈ insA lt y l → z = y ∨ z ∈ l
  | [], h => .inl (List.mem_singleton.mp h)
  | q :: l, h => by
    unfold insA at h
    split at h
    · rcases List.mem_cons.mp h with h | h
      · exact .inl h
      · exact .inr h
    · rcases List.mem_cons.mp h with h | h
      · exact .inr (by rw [h]; exact List.mem_cons_self ..)
      · rcases insA_mem h with h | h
        · exact .inl h
        · exact .inr (List.mem_cons_of_mem _ h)
theorem asymm {lt : α → α → Bool} (o : Ord lt) (irr : ∀ a, lt a a = false) {a b : α} (h : lt a b = true) : lt b a = false := by
  cases e : lt b a with
  | false => rfl
  | true =>
    have := o.trans h e
    rw [irr] at this
    cases this
theorem insA_srt {lt : α → α → Bool} (o : Ord lt) (irr : ∀ a, lt a a = false) (y : α) : ∀ {l : List α}, Srt lt l → Srt lt (insA lt y l)
  | [], _ => List.pairwise_singleton _ _
  | q :: l, h => by
    obtain ⟨h1, h2⟩ := List.pairwise_cons.mp h
    unfold insA
    split
    · rename_i c
      refine List.pairwise_cons.mpr ⟨fun z hz => ?_, h⟩
      rcases List.mem_cons.mp hz with rfl | hz
      · exact asymm o irr c
      · have := h1 z hz
        cases e : lt z y with
        | false => rfl
        | true =>
          have := o.trans e c
          rw [h1 z hz] at this
          cases this
    · rename_i c
      refine List.pairwise_cons.mpr ⟨fun z hz => ?_, insA_srt o irr y h2⟩
      rcases insA_mem hz with rfl | hz
      · simpa using c
      · exact h1 z hz
theorem foldA_srt {lt : α → α → Bool} (o : Ord lt) (irr : ∀ a, lt a a = false) : ∀ (ys : List α) {l : List α}, Srt lt l → Srt lt (ys.foldl (fun l y => insA lt y l) l)
  | [], _, h => h
  | y :: r, _, h => foldA_srt o irr r (insA_srt o irr y h)
theorem filter_none {lt : α → α → Bool} (o : Ord lt) {y q : α} (hq : lt y q = true) : ∀ {l : List α}, (∀ z ∈ l, lt z q = false) → l.filter (fun z => !lt y z) = []
  | [], _ => rfl
  | z :: r, h => by
    have hz : lt y z = true := o.neg hq (h z (List.mem_cons_self ..))
    rw [List.filter_cons, hz]
    exact filter_none o hq fun u hu => h u (List.mem_cons_of_mem _ hu)
/-- on a sorted list the count of those that are no greater is the place -/
theorem place_insA {lt : α → α → Bool} (o : Ord lt) (y : α) : ∀ {l : List α}, Srt lt l → l.take (l.filter fun z => !lt y z).length ++ [y] ++ l.drop (l.filter fun z => !lt y z).length = insA lt y l
  | [], _ => rfl
  | q :: l, h => by
    obtain ⟨h1, h2⟩ := List.pairwise_cons.mp h
    have ih := place_insA o y h2
    unfold insA
    cases c : lt y q with
    | true =>
      rw [if_pos rfl, List.filter_cons, c]
      have := filter_none o c h1
      simp only [Bool.not_true, Bool.false_eq_true, if_false, this]
      rfl
    | false =>
      rw [if_neg (by decide), List.filter_cons, c]
      simp only [Bool.not_false, if_true, List.length_cons, List.take_succ_cons, List.drop_succ_cons, List.cons_append]
      rw [← ih]
end
/-! ### the order of cells -/
theorem listLt_irr : ∀ l : B, listLt l l = false
  | [] => rfl
  | x :: r => by
    show (if x = x then listLt r r else _) = false
    rw [if_pos rfl]
    exact listLt_irr r
theorem listLt_nil (a : B) : listLt a [] = false := by cases a <;> rfl
theorem listLt_trans : ∀ {a b c : B}, listLt a b = true → listLt b c = true → listLt a c = true
  | a, [], _, h, _ => by rw [listLt_nil] at h; cases h
  | a, x :: r, [], _, h => by cases h
  | [], _ :: _, z :: t, _, _ => rfl
  | u :: v, x :: r, z :: t, h1, h2 => by
    have h1 : (if u = x then listLt v r else decide (u < x)) = true := h1
    have h2 : (if x = z then listLt r t else decide (x < z)) = true := h2
    show (if u = z then listLt v t else decide (u < z)) = true
    by_cases a : u = x
    · rw [if_pos a] at h1
      by_cases b : x = z
      · rw [if_pos b] at h2
        rw [if_pos (a.trans b)]
        exact listLt_trans h1 h2
      · rw [if_neg b] at h2
        rw [if_neg (by rw [a]; exact b), a]
        exact h2
    · rw [if_neg a] at h1
      have h1 := of_decide_eq_true h1
      by_cases b : x = z
      · rw [if_neg (by rw [← b]; exact a), ← b]
        exact decide_eq_true h1
      · rw [if_neg b] at h2
        have h2 := of_decide_eq_true h2
        rw [if_neg (by omega)]
        exact decide_eq_true (by omega)
theorem listLt_tri : ∀ {a b : B}, listLt a b = false → a = b ∨ listLt b a = true
  | [], [], _ => .inl rfl
  | [], _ :: _, h => by cases h
  | _ :: _, [], _ => .inr rfl
  | u :: v, x :: r, h => by
    have h : (if u = x then listLt v r else decide (u < x)) = false := h
    show _ ∨ (if x = u then listLt r v else decide (x < u)) = true
    by_cases a : u = x
    · rw [if_pos a] at h
      rw [if_pos a.symm, a]
      rcases listLt_tri h with e | e
      · exact .inl (by rw [e])
      · exact .inr e
    · rw [if_neg a] at h
      have h := of_decide_eq_false h
      rw [if_neg (Ne.symm a)]
      exact .inr (decide_eq_true (by omega))
theorem cellLt_irr (a : Cell) : cellLt a a = false := by
  unfold cellLt
  rw [if_pos rfl, if_pos rfl]
  exact listLt_irr _
theorem cellLt_trans {a b c : Cell} (h1 : cellLt a b = true) (h2 : cellLt b c = true) : cellLt a c = true := by
  unfold cellLt at *
  by_cases p : a.a = b.a
  · rw [if_pos p] at h1
    by_cases q : b.a = c.a
    · rw [if_pos q] at h2
      rw [if_pos (p.trans q)]
      by_cases r : a.b = b.b
      · rw [if_pos r] at h1
        by_cases s : b.b = c.b
        · rw [if_pos s] at h2
          rw [if_pos (r.trans s)]
          exact listLt_trans h1 h2
        · rw [if_neg s] at h2
          rw [if_neg (by rw [r]; exact s), r]
          exact h2
      · rw [if_neg r] at h1
        have h1 := of_decide_eq_true h1
        by_cases s : b.b = c.b
        · rw [if_neg (by rw [← s]; exact r), ← s]
          exact decide_eq_true h1
        · rw [if_neg s] at h2
          have h2 := of_decide_eq_true h2
          rw [if_neg (by omega)]
          exact decide_eq_true (by omega)
    · rw [if_neg q] at h2
      rw [if_neg (by rw [p]; exact q), p]
      exact h2
  · rw [if_neg p] at h1
    have h1 := of_decide_eq_true h1
    by_cases q : b.a = c.a
    · rw [if_neg (by rw [← q]; exact p), ← q]
      exact decide_eq_true h1
    · rw [if_neg q] at h2
      have h2 := of_decide_eq_true h2
      rw [if_neg (by omega)]
      exact decide_eq_true (by omega)
theorem cellLt_tri {a b : Cell} (h : cellLt a b = false) : a = b ∨ cellLt b a = true := by
  obtain ⟨a1, a2, a3⟩ := a
  obtain ⟨b1, b2, b3⟩ := b
  unfold cellLt at *
  dsimp only at *
  by_cases p : a1 = b1
  · subst p
    rw [if_pos rfl] at h ⊢
    by_cases r : a2 = b2
    · subst r
      rw [if_pos rfl] at h ⊢
      rcases listLt_tri h with e | e
      · exact .inl (by rw [e])
      · exact .inr e
    · rw [if_neg r] at h
      have h := of_decide_eq_false h
      rw [if_neg (Ne.symm r)]
      exact .inr (decide_eq_true (by omega))
  · rw [if_neg p] at h
    have h := of_decide_eq_false h
    rw [if_neg (Ne.symm p)]
    exact .inr (decide_eq_true (by omega))
theorem cellLt_neg {a b c : Cell} (h1 : cellLt a b = true) (h2 : cellLt c b = false) : cellLt a c = true := by
  rcases cellLt_tri h2 with e | e
  · rw [e]; exact h1
  · exact cellLt_trans h1 e
theorem cellLt_neg2 {a b c : Cell} (h1 : cellLt b a = true) (h2 : cellLt b c = false) : cellLt c a = true := by
  rcases cellLt_tri h2 with e | e
  · rw [← e]; exact h1
  · exact cellLt_trans e h1
theorem lessText_of : ∀ a b : Bytes, listLt (ofB a) (ofB b) = Vanbkh.lessText a b
  | [], [] => rfl
  | [], _ :: _ => rfl
  | _ :: _, [] => rfl
  | x :: r, y :: s => by
    show (if ((x.toNat : Int)) = (y.toNat : Int) then listLt (ofB r) (ofB s) else decide ((x.toNat : Int) < (y.toNat : Int))) = (decide (x < y) || (x == y && Vanbkh.lessText r s))
    rw [lessText_of r s]
    by_cases c : x = y
    · subst c
      rw [if_pos rfl, beq_self_eq_true, Bool.true_and]
      have : decide (x < x) = false := decide_eq_false (fun h => by
        have := UInt8.lt_iff_toNat_lt.mp h
        omega)
      rw [this, Bool.false_or]
    · rw [if_neg (fun h => c (u8_inj h)), beq_false_of_ne c, Bool.false_and, Bool.or_false]
      have : ((x.toNat : Int) < (y.toNat : Int)) ↔ x < y := by
        rw [UInt8.lt_iff_toNat_lt]
        omega
      exact decide_eq_decide.mpr this
theorem lessCell_of (a b : Vanbkh.Cell) : cellLt (cellR a) (cellR b) = Vanbkh.lessCell a b := by
  cases a with
  | number x => cases b with
    | number y =>
      show (if (0 : Int) = 0 then (if x = y then listLt [] [] else decide (x < y)) else _) = decide (x < y)
      rw [if_pos rfl]
      by_cases c : x = y
      · subst c
        rw [if_pos rfl, decide_eq_false (by omega)]
        rfl
      · rw [if_neg c]
    | text y => rfl
  | text x => cases b with
    | number y => rfl
    | text y =>
      show (if (1 : Int) = 1 then (if (0 : Int) = 0 then listLt (ofB x) (ofB y) else _) else _) = _
      rw [if_pos rfl, if_pos rfl]
      exact lessText_of x y
/-! ### rows by a column -/
/-- the order of rows; k a column -/
def rowLt (k d : Int) (a b : List Cell) : Bool := if d = 1 then cellLt (at0 b k) (at0 a k) else cellLt (at0 a k) (at0 b k)
theorem rowLt_ord (k d : Int) : Ord (rowLt k d) := by
  unfold rowLt
  by_cases c : d = 1
  · exact ⟨fun h1 h2 => by rw [if_pos c] at *; exact cellLt_trans h2 h1, fun h1 h2 => by rw [if_pos c] at *; exact cellLt_neg2 h1 h2⟩
  · exact ⟨fun h1 h2 => by rw [if_neg c] at *; exact cellLt_trans h1 h2, fun h1 h2 => by rw [if_neg c] at *; exact cellLt_neg h1 h2⟩
theorem rowLt_irr (k d : Int) (a : List Cell) : rowLt k d a a = false := by
  unfold rowLt
  split <;> exact cellLt_irr _
theorem inserted_insA (k d : Int) {rows : List (List Cell)} (row : List Cell) (h : Srt (rowLt k d) rows) : inserted rows row k d = insA (rowLt k d) row rows := by
  rw [← place_insA (rowLt_ord k d) row h]
  have e : aheadOf rows row k d = rows.filter fun z => !rowLt k d row z := by
    unfold aheadOf
    congr 1
    funext z
    unfold staysAhead rowLt
    split <;> rfl
  unfold inserted
  rw [e]
theorem sorted_fold {n : Nat} {hd : List Cell} {rows : List (List Cell)} (he : even n (hd :: rows)) (k d : Int) : ∀ i : Nat, i ≤ rows.length →
    (List.range i).foldl (sortStep (n : Int) (hd :: rows).flatten k d) [] = (rows.take i).foldl (fun l y => insA (rowLt k d) y l) []
  | 0, _ => by simp
  | i + 1, hi => by
    rw [List.range_succ, List.foldl_append, sorted_fold he k d i (by omega), List.take_add_one, List.getElem?_eq_getElem (by omega), List.foldl_append]
    show sortStep (n : Int) (hd :: rows).flatten k d _ i = insA (rowLt k d) rows[i] _
    unfold sortStep
    rw [show 1 + (i : Int) = ((i + 1 : Nat) : Int) by omega, rowCells_flat he]
    have e : (hd :: rows).getD (i + 1) [] = rows[i] := by
      rw [List.getD_eq_getElem?_getD]
      show (rows[i]?).getD [] = _
      rw [List.getElem?_eq_getElem (by omega)]
      rfl
    rw [e]
    exact inserted_insA k d _ (foldA_srt (rowLt_ord k d) (rowLt_irr k d) _ List.Pairwise.nil)
theorem insertRow_of {k : Nat} {d : Int} {n : Nat} (hk : k < n) (desc : Bool) (hd : desc = decide (d = 1)) (r : List Vanbkh.Cell) (hr : r.length = n) : ∀ l : List (List Vanbkh.Cell), even n l →
    (Vanbkh.insertRow (fun x y => if desc then Vanbkh.lessCell y x else Vanbkh.lessCell x y) k r l).map (fun r => r.map cellR) = insB (rowLt (k : Int) d) (r.map cellR) (l.map fun r => r.map cellR)
  | [], _ => rfl
  | q :: l, h => by
    obtain ⟨h1, h2⟩ := even_cons h
    have hx : at0 (r.map cellR) (k : Int) = cellR r[k] := by
      unfold at0
      rw [Int.toNat_natCast, List.getD_eq_getElem?_getD, List.getElem?_map, List.getElem?_eq_getElem (by omega)]
      rfl
    have hq : at0 (q.map cellR) (k : Int) = cellR q[k] := by
      unfold at0
      rw [Int.toNat_natCast, List.getD_eq_getElem?_getD, List.getElem?_map, List.getElem?_eq_getElem (by omega)]
      rfl
    have hlt : rowLt (k : Int) d (q.map cellR) (r.map cellR) = if desc then Vanbkh.lessCell r[k] q[k] else Vanbkh.lessCell q[k] r[k] := by
      unfold rowLt
      rw [hx, hq, lessCell_of, lessCell_of, hd]
      by_cases c : d = 1
      · rw [if_pos c, decide_eq_true c]; rfl
      · rw [if_neg c, decide_eq_false c]; rfl
    rw [List.map_cons]
    show _ = if rowLt (k : Int) d (q.map cellR) (r.map cellR) = true then _ else _
    rw [hlt, ← insertRow_of hk desc hd r hr l h2]
    have e : Vanbkh.insertRow (fun x y => if desc then Vanbkh.lessCell y x else Vanbkh.lessCell x y) k r (q :: l) = if (if desc then Vanbkh.lessCell r[k] q[k] else Vanbkh.lessCell q[k] r[k]) = true then q :: Vanbkh.insertRow (fun x y => if desc then Vanbkh.lessCell y x else Vanbkh.lessCell x y) k r l else r :: q :: l := by
      conv => lhs; unfold Vanbkh.insertRow
      rw [List.getElem?_eq_getElem (show k < r.length by omega), List.getElem?_eq_getElem (show k < q.length by omega)]
    rw [e]
    by_cases c : (if desc then Vanbkh.lessCell r[k] q[k] else Vanbkh.lessCell q[k] r[k]) = true
    · rw [if_pos c, if_pos c]
      rfl
    · rw [if_neg c, if_neg c]
      rfl
theorem insertRow_even {n k : Nat} {p : Vanbkh.Cell → Vanbkh.Cell → Bool} {r : List Vanbkh.Cell} (hr : r.length = n) : ∀ {l : List (List Vanbkh.Cell)}, even n l → even n (Vanbkh.insertRow p k r l)
  | [], _ => fun x hx => by
    have : x = r := by simpa [Vanbkh.insertRow] using hx
    rw [this]; exact hr
  | q :: l, h => fun x hx => by
    obtain ⟨h1, h2⟩ := even_cons h
    unfold Vanbkh.insertRow at hx
    have alt : x ∈ r :: q :: l → x.length = n := fun hx => by
      rcases List.mem_cons.mp hx with rfl | hx
      · exact hr
      · exact h x hx
    split at hx
    · split at hx
      · rcases List.mem_cons.mp hx with rfl | hx
        · exact h1
        · exact insertRow_even hr h2 x hx
      · exact alt hx
    · exact alt hx
theorem sortRows_even {n k : Nat} {desc : Bool} : ∀ {l : List (List Vanbkh.Cell)}, even n l → even n (Vanbkh.sortRows desc k l)
  | [], _ => fun x hx => absurd hx List.not_mem_nil
  | r :: l, h => by
    obtain ⟨h1, h2⟩ := even_cons h
    exact insertRow_even h1 (sortRows_even h2)
theorem sortRows_of {k : Nat} {d : Int} {n : Nat} (hk : k < n) (desc : Bool) (hd : desc = decide (d = 1)) : ∀ l : List (List Vanbkh.Cell), even n l →
    (Vanbkh.sortRows desc k l).map (fun r => r.map cellR) = (l.map fun r => r.map cellR).foldr (insB (rowLt (k : Int) d)) []
  | [], _ => rfl
  | r :: l, h => by
    obtain ⟨h1, h2⟩ := even_cons h
    rw [List.map_cons, List.foldr_cons, ← sortRows_of hk desc hd l h2]
    exact insertRow_of hk desc hd r h1 _ (sortRows_even h2)
theorem sortedCells_of {t : Vanbkh.Table} (h : goodT t) {k : Nat} (hk : k < t.headers.length) (d : Int) (desc : Bool) (hd : desc = decide (d = 1)) :
    sortedCells (t.headers.length : Int) (tabR t) (k : Int) d = tabR { t with rows := Vanbkh.sortRows desc k t.rows } := by
  unfold sortedCells tabR sortedRowsOf
  have h0 : rowCells (t.headers.length : Int) (rowsR t).flatten 0 = headR t := by
    have := rowCells_flat (rowsR_even h) 0
    exact this
  have hr : rowTotal (t.headers.length : Int) (rowsR t).flatten = ((rowsR t).length : Int) := rowTotal_flat (by have := h.pos; omega) (rowsR_even h)
  rw [h0, hr]
  have hl : (((rowsR t).length : Int) - 1).toNat = (t.rows.map fun r => r.map cellR).length := by
    show (((t.rows.map fun r => r.map cellR).length + 1 : Nat) - 1 : Int).toNat = _
    omega
  rw [hl]
  have z := sorted_fold (rowsR_even h) (k : Int) d (t.rows.map fun r => r.map cellR).length (Nat.le_refl _)
  rw [List.take_length, fold_sort (rowLt_ord _ _), ← sortRows_of hk desc hd t.rows h.rows] at z
  show headR t ++ (List.foldl (sortStep (t.headers.length : Int) (headR t :: t.rows.map fun r => r.map cellR).flatten (k : Int) d) [] _).flatten = _
  rw [z]
  rfl
/-! ### selecting columns -/
theorem pick_of {β : Type} (ks : List Int) {n : Nat} (hk : ∀ k ∈ ks, 0 ≤ k ∧ k < n) (r : List β) (hr : r.length = n) (f : β → Cell) : ks.map (fun k => at0 (r.map f) k) = ((ks.map Int.toNat).filterMap fun k => r[k]?).map f := by
  induction ks with
  | nil => rfl
  | cons k s ih =>
    obtain ⟨a, b⟩ := hk k (List.mem_cons_self ..)
    rw [List.map_cons, ih fun j hj => hk j (List.mem_cons_of_mem _ hj), List.map_cons, List.filterMap_cons, List.getElem?_eq_getElem (show k.toNat < r.length by omega)]
    show _ :: _ = f _ :: _
    congr 1
    unfold at0
    rw [List.getD_eq_getElem?_getD, List.getElem?_map, List.getElem?_eq_getElem (show k.toNat < r.length by omega)]
    rfl
theorem range_flatMap {α β : Type} (f : List α → List β) : ∀ rows : List (List α), (List.range rows.length).flatMap (fun i => f (rows.getD i [])) = (rows.map f).flatten
  | [] => rfl
  | r :: s => by
    rw [List.length_cons, List.range_succ_eq_map, List.flatMap_cons, List.flatMap_map, List.map_cons, List.flatten_cons, ← range_flatMap f s]
    rfl
theorem chosenCells_of {t : Vanbkh.Table} (h : goodT t) (ks : List Int) (hk : ∀ k ∈ ks, 0 ≤ k ∧ k < (t.headers.length : Int)) : chosenCells (t.headers.length : Int) (tabR t) ks = tabR (Vanbkh.selectColumns (ks.map Int.toNat) t) := by
  unfold chosenCells
  have hr : rowTotal (t.headers.length : Int) (tabR t) = ((rowsR t).length : Int) := rowTotal_flat (by have := h.pos; omega) (rowsR_even h)
  rw [hr, Int.toNat_natCast]
  rw [flatMap_eq (g := fun i => ks.map fun k => at0 ((rowsR t).getD i []) k) fun i _ => by
    rw [show rowCells (t.headers.length : Int) (tabR t) (i : Int) = (rowsR t).getD i [] from rowCells_flat (rowsR_even h) i]]
  rw [range_flatMap (fun r => ks.map fun k => at0 r k)]
  unfold tabR
  congr 1
  unfold rowsR
  rw [List.map_cons, List.map_map]
  congr 1
  · unfold headR Vanbkh.selectColumns
    exact pick_of ks hk t.headers rfl _
  · unfold Vanbkh.selectColumns
    rw [List.map_map]
    refine List.map_congr_left fun r hr => ?_
    exact pick_of ks hk r (h.rows r hr) cellR
theorem select_len (ks : List Int) {β : Type} {n : Nat} (hk : ∀ k ∈ ks, 0 ≤ k ∧ k < n) (r : List β) (hr : r.length = n) : ((ks.map Int.toNat).filterMap fun k => r[k]?).length = ks.length := by
  induction ks with
  | nil => rfl
  | cons k s ih =>
    obtain ⟨a, b⟩ := hk k (List.mem_cons_self ..)
    rw [List.map_cons, List.filterMap_cons, List.getElem?_eq_getElem (show k.toNat < r.length by omega)]
    show (_ :: _).length = _
    rw [List.length_cons, List.length_cons, ih fun j hj => hk j (List.mem_cons_of_mem _ hj)]
end R
end
section
set_option Elab.async false
set_option linter.all false
/-! Reading a table: both readers give back every valid table of its full text. -/
namespace R
open Vanbkh (Bytes)
/-! ### splitting -/
theorem split_ne (c : UInt8) : ∀ l : Bytes, Vanbkh.splitAtByte c l ≠ []
  | [] => by simp [Vanbkh.splitAtByte]
  | x :: r => by
    unfold Vanbkh.splitAtByte
    split
    · simp
    · split <;> simp
theorem split_cons (c x : UInt8) (r : Bytes) : Vanbkh.splitAtByte c (x :: r) = if x == c then [] :: Vanbkh.splitAtByte c r else match Vanbkh.splitAtByte c r with
    | [] => [[x]]
    | p :: ps => (x :: p) :: ps := by
  show (match Vanbkh.splitAtByte c r with
    | [] => [[x]]
    | p :: ps => if x == c then [] :: p :: ps else (x :: p) :: ps) = _
  cases h : Vanbkh.splitAtByte c r with
  | nil => exact absurd h (split_ne c r)
  | cons p ps => rfl
theorem split_app (c : UInt8) : ∀ (x rest : Bytes), c ∉ x → Vanbkh.splitAtByte c (x ++ c :: rest) = x :: Vanbkh.splitAtByte c rest
  | [], rest, _ => by
    rw [List.nil_append, split_cons, if_pos (beq_self_eq_true c)]
  | a :: x, rest, h => by
    have h1 : a ≠ c := fun e => h (by rw [e]; exact List.mem_cons_self ..)
    rw [List.cons_append, split_cons, split_app c x rest fun hx => h (List.mem_cons_of_mem _ hx), if_neg (by simpa using h1)]
theorem split_one (c : UInt8) : ∀ (x : Bytes), c ∉ x → Vanbkh.splitAtByte c x = [x]
  | [], _ => rfl
  | a :: x, h => by
    have h1 : a ≠ c := fun e => h (by rw [e]; exact List.mem_cons_self ..)
    rw [split_cons, split_one c x fun hx => h (List.mem_cons_of_mem _ hx), if_neg (by simpa using h1)]
theorem split_join : ∀ ls : List Bytes, ls ≠ [] → (∀ l ∈ ls, (10 : UInt8) ∉ l) → Vanbkh.splitAtByte 10 (Vanbkh.join [10] ls) = ls
  | [], h, _ => absurd rfl h
  | [x], _, h => split_one 10 x (h x (List.mem_cons_self ..))
  | x :: y :: r, _, h => by
    show Vanbkh.splitAtByte 10 (x ++ [10] ++ Vanbkh.join [10] (y :: r)) = _
    rw [List.append_assoc]
    show Vanbkh.splitAtByte 10 (x ++ 10 :: Vanbkh.join [10] (y :: r)) = _
    rw [split_app 10 x _ (h x (List.mem_cons_self ..)), split_join (y :: r) (by simp) fun l hl => h l (List.mem_cons_of_mem _ hl)]
/-! ### printed cells -/
def okB (b : UInt8) : Prop := b ≠ 10 ∧ b ≠ 124
theorem escape_ok (c : UInt8) : ∀ b ∈ Vanbkh.escape c, okB b := by
  by_cases a : c = 34
  · subst a; unfold okB; decide
  by_cases b : c = 92
  · subst b; unfold okB; decide
  by_cases d : c = 10
  · subst d; unfold okB; decide
  by_cases e : c = 124
  · subst e; unfold okB; decide
  by_cases f : c = 126
  · subst f; unfold okB; decide
  have g : Vanbkh.escape c = [c] := by
    unfold Vanbkh.escape
    rw [beq_false_of_ne a, beq_false_of_ne b, beq_false_of_ne d, beq_false_of_ne e, beq_false_of_ne f]
    rfl
  intro x hx
  rw [g] at hx
  rw [List.mem_singleton.mp hx]
  exact ⟨d, e⟩
theorem plain_parts {t : Bytes} (h : Vanbkh.isPlain t = true) : t ≠ [] ∧ (∀ c ∈ t, Vanbkh.needsEscape c = false) ∧ t.head? ≠ some 32 ∧ t.getLast? ≠ some 32 ∧ Vanbkh.parseNumber t = none := by
  unfold Vanbkh.isPlain at h
  simp only [Bool.and_eq_true, Bool.not_eq_true', bne_iff_ne, ne_eq, Option.isNone_iff_eq_none] at h
  obtain ⟨⟨⟨⟨h1, h2⟩, h3⟩, h4⟩, h5⟩ := h
  refine ⟨fun e => by rw [e] at h1; exact absurd h1 (by decide), fun c hc => ?_, h3, h4, h5⟩
  cases e : Vanbkh.needsEscape c with
  | false => rfl
  | true =>
    have := List.any_eq_true.mpr ⟨c, hc, e⟩
    rw [h2] at this
    cases this
theorem plain_ne {c : UInt8} (h : Vanbkh.needsEscape c = false) : c ≠ 10 ∧ c ≠ 34 ∧ c ≠ 92 ∧ c ≠ 124 ∧ c ≠ 126 := by
  unfold Vanbkh.needsEscape at h
  simp only [Bool.or_eq_false_iff, beq_eq_false_iff_ne, ne_eq] at h
  obtain ⟨⟨⟨⟨a, b⟩, c⟩, d⟩, e⟩ := h
  exact ⟨a, b, c, d, e⟩
theorem printCell_ok (c : Vanbkh.Cell) : ∀ b ∈ Vanbkh.printCell c, okB b := by
  cases c with
  | number z =>
    intro b hb
    rcases decimal_mem hb with rfl | h
    · exact ⟨by decide, by decide⟩
    · exact ⟨fun e => by rw [e] at h; exact absurd h (by decide), fun e => by rw [e] at h; exact absurd h (by decide)⟩
  | text t =>
    intro b hb
    have hb : b ∈ (if Vanbkh.isPlain t = true then t else [34] ++ t.flatMap Vanbkh.escape ++ [34]) := hb
    split at hb
    · rename_i h
      have := plain_ne ((plain_parts h).2.1 b hb)
      exact ⟨this.1, this.2.2.2.1⟩
    · simp only [List.mem_append, List.mem_cons, List.not_mem_nil, or_false, List.mem_flatMap] at hb
      rcases hb with (rfl | ⟨c, _, hb⟩) | rfl
      · exact ⟨by decide, by decide⟩
      · exact escape_ok c b hb
      · exact ⟨by decide, by decide⟩
theorem printCell_ends (c : Vanbkh.Cell) : (Vanbkh.printCell c).head? ≠ some 32 ∧ (Vanbkh.printCell c).getLast? ≠ some 32 := by
  cases c with
  | number z =>
    have nz : ∀ b ∈ Vanbkh.decimal z, b ≠ 32 := fun b hb e => by
      rcases decimal_mem hb with h | h
      · rw [e] at h; exact absurd h (by decide)
      · rw [e] at h; exact absurd h (by decide)
    exact ⟨fun e => nz _ (List.mem_of_mem_head? e) rfl, fun e => nz _ (List.mem_of_getLast? e) rfl⟩
  | text t =>
    show (if Vanbkh.isPlain t = true then t else [34] ++ t.flatMap Vanbkh.escape ++ [34]).head? ≠ _ ∧ (if Vanbkh.isPlain t = true then t else [34] ++ t.flatMap Vanbkh.escape ++ [34]).getLast? ≠ _
    split
    · rename_i h
      exact ⟨(plain_parts h).2.2.1, (plain_parts h).2.2.2.1⟩
    · refine ⟨by simp, ?_⟩
      rw [List.getLast?_append]
      simp
/-! ### trimming -/
theorem trim_space (l : Bytes) : Vanbkh.trim (32 :: l) = Vanbkh.trim l := by
  unfold Vanbkh.trim
  rw [List.dropWhile_cons, if_pos (by decide)]
theorem trim_solid (x : UInt8) (l : Bytes) (h : x ≠ 32) : Vanbkh.trim (x :: l) = Vanbkh.trimEnd (x :: l) := by
  unfold Vanbkh.trim
  rw [List.dropWhile_cons, if_neg (by simpa using h)]
theorem trim_lead : ∀ (a : Nat) (l : Bytes), Vanbkh.trim (Vanbkh.spaces a ++ l) = Vanbkh.trim l
  | 0, _ => rfl
  | a + 1, l => by
    rw [show Vanbkh.spaces (a + 1) ++ l = 32 :: (Vanbkh.spaces a ++ l) from rfl, trim_space, trim_lead a l]
theorem trimEnd_tail (l : Bytes) : ∀ b : Nat, Vanbkh.trimEnd (l ++ Vanbkh.spaces b) = Vanbkh.trimEnd l
  | 0 => by rw [show Vanbkh.spaces 0 = [] from rfl, List.append_nil]
  | b + 1 => by
    rw [show Vanbkh.spaces (b + 1) = Vanbkh.spaces b ++ [32] from List.replicate_succ', ← List.append_assoc, trimEnd_space, trimEnd_tail l b]
theorem trimEnd_id {l : Bytes} (h : l.getLast? ≠ some 32) (h0 : l ≠ []) : Vanbkh.trimEnd l = l := by
  obtain ⟨r, x, rfl⟩ : ∃ r x, l = r ++ [x] := ⟨l.dropLast, l.getLast h0, (List.dropLast_concat_getLast h0).symm⟩
  refine trimEnd_solid r x fun e => h ?_
  rw [List.getLast?_append, e]
  rfl
theorem trim_pad {p : Bytes} (h0 : p ≠ []) (h1 : p.head? ≠ some 32) (h2 : p.getLast? ≠ some 32) (a b : Nat) : Vanbkh.trim (Vanbkh.spaces a ++ (p ++ Vanbkh.spaces b)) = p := by
  rw [trim_lead]
  cases p with
  | nil => exact absurd rfl h0
  | cons x r =>
    rw [List.cons_append, trim_solid x _ (fun e => h1 (by rw [e]; rfl)), ← List.cons_append, trimEnd_tail, trimEnd_id h2 h0]
theorem align_eq {n : Nat} {c : Vanbkh.Cell} (h : (Vanbkh.printCell c).length ≤ n) : ∃ a b : Nat, Vanbkh.alignCell n c = Vanbkh.spaces a ++ (Vanbkh.printCell c ++ Vanbkh.spaces b) ∧ a + (Vanbkh.printCell c).length + b = n := by
  have ht : Vanbkh.truncate n (Vanbkh.printCell c) = Vanbkh.printCell c := if_pos h
  unfold Vanbkh.alignCell
  rw [ht]
  split
  · exact ⟨n - (Vanbkh.printCell c).length, 0, by unfold Vanbkh.padLeft; rw [show Vanbkh.spaces 0 = [] from rfl, List.append_nil], by omega⟩
  · exact ⟨0, n - (Vanbkh.printCell c).length, rfl, by omega⟩
theorem printCell_ne (c : Vanbkh.Cell) : Vanbkh.printCell c ≠ [] := List.length_pos_iff.mp (printCell_pos c)
theorem trim_align {n : Nat} {c : Vanbkh.Cell} (h : (Vanbkh.printCell c).length ≤ n) : Vanbkh.trim (Vanbkh.alignCell n c) = Vanbkh.printCell c := by
  obtain ⟨a, b, e, _⟩ := align_eq h
  rw [e]
  exact trim_pad (printCell_ne c) (printCell_ends c).1 (printCell_ends c).2 a b
theorem align_len {n : Nat} {c : Vanbkh.Cell} (h : (Vanbkh.printCell c).length ≤ n) : (Vanbkh.alignCell n c).length = n := by
  obtain ⟨a, b, e, e2⟩ := align_eq h
  rw [e, List.length_append, List.length_append, show (Vanbkh.spaces a).length = a from List.length_replicate, show (Vanbkh.spaces b).length = b from List.length_replicate]
  omega
theorem trim_piece {n : Nat} {c : Vanbkh.Cell} (h : (Vanbkh.printCell c).length ≤ n) : Vanbkh.trim (32 :: (Vanbkh.alignCell n c ++ [32])) = Vanbkh.printCell c := by
  obtain ⟨a, b, e, _⟩ := align_eq h
  rw [e, trim_space, List.append_assoc, List.append_assoc, show Vanbkh.spaces b ++ [32] = Vanbkh.spaces (b + 1) from List.replicate_succ'.symm]
  exact trim_pad (printCell_ne c) (printCell_ends c).1 (printCell_ends c).2 a (b + 1)
theorem align_ok {n : Nat} {c : Vanbkh.Cell} (h : (Vanbkh.printCell c).length ≤ n) : ∀ b ∈ Vanbkh.alignCell n c, okB b := by
  obtain ⟨a, b, e, _⟩ := align_eq h
  rw [e]
  have sp : ∀ k, ∀ x ∈ Vanbkh.spaces k, okB x := fun k x hx => by
    rw [List.eq_of_mem_replicate hx]
    exact ⟨by decide, by decide⟩
  intro x hx
  rcases List.mem_append.mp hx with hx | hx
  · exact sp a x hx
  · rcases List.mem_append.mp hx with hx | hx
    · exact printCell_ok c x hx
    · exact sp b x hx
/-! ### a row's line -/
/-- each cell fits its column -/
inductive Fits : List Nat → List Vanbkh.Cell → Prop
  | nil : Fits [] []
  | cons {n : Nat} {c : Vanbkh.Cell} {ws : List Nat} {cs : List Vanbkh.Cell} : (Vanbkh.printCell c).length ≤ n → Fits ws cs → Fits (n :: ws) (c :: cs)
def rowBody : List Nat → List Vanbkh.Cell → Bytes
  | n :: ws, c :: cs => 32 :: (Vanbkh.alignCell n c ++ [32]) ++ 124 :: rowBody ws cs
  | _, _ => []
theorem rowLine_cons (n : Nat) (c : Vanbkh.Cell) (ws : List Nat) (cs : List Vanbkh.Cell) : Vanbkh.rowLine (n :: ws) (c :: cs) = [124, 32] ++ Vanbkh.alignCell n c ++ [32] ++ Vanbkh.rowLine ws cs := by
  unfold Vanbkh.rowLine
  rw [List.zip_cons_cons, List.flatMap_cons, List.append_assoc]
theorem rowLine_body {ws : List Nat} {cs : List Vanbkh.Cell} (h : Fits ws cs) : Vanbkh.rowLine ws cs = 124 :: rowBody ws cs := by
  induction h with
  | nil => rfl
  | cons h1 h2 ih =>
    rename_i n c ws cs
    rw [rowLine_cons, ih]
    simp [rowBody]
theorem rowBody_ok {ws : List Nat} {cs : List Vanbkh.Cell} (h : Fits ws cs) : (10 : UInt8) ∉ rowBody ws cs := by
  induction h with
  | nil => exact List.not_mem_nil
  | cons h1 h2 ih =>
    rename_i n c ws cs
    intro hm
    unfold rowBody at hm
    simp only [List.cons_append, List.mem_cons, List.mem_append, List.not_mem_nil, or_false] at hm
    rcases hm with e | (hm | e) | e | hm
    · exact absurd e (by decide)
    · exact (align_ok h1 _ hm).1 rfl
    · exact absurd e (by decide)
    · exact absurd e (by decide)
    · exact ih hm
theorem split_body {ws : List Nat} {cs : List Vanbkh.Cell} (h : Fits ws cs) : Vanbkh.splitAtByte 124 (rowBody ws cs) = (ws.zip cs).map (fun x => 32 :: (Vanbkh.alignCell x.1 x.2 ++ [32])) ++ [[]] := by
  induction h with
  | nil => rfl
  | cons h1 h2 ih =>
    rename_i n c ws cs
    unfold rowBody
    rw [split_app 124 _ _ (fun hm => by
      simp only [List.mem_cons, List.mem_append, List.not_mem_nil, or_false] at hm
      rcases hm with e | hm | e
      · exact absurd e (by decide)
      · exact (align_ok h1 _ hm).2 rfl
      · exact absurd e (by decide)), ih]
    rfl
theorem rowLine_ok {ws : List Nat} {cs : List Vanbkh.Cell} (h : Fits ws cs) : (10 : UInt8) ∉ Vanbkh.rowLine ws cs := by
  rw [rowLine_body h]
  intro hm
  rcases List.mem_cons.mp hm with e | hm
  · exact absurd e (by decide)
  · exact rowBody_ok h hm
theorem contents_of {ws : List Nat} {cs : List Vanbkh.Cell} (h : Fits ws cs) : Vanbkh.cellContents ws (Vanbkh.rowLine ws cs) = (ws.zip cs).map fun x => Vanbkh.alignCell x.1 x.2 := by
  induction h with
  | nil => rfl
  | cons h1 h2 ih =>
    rename_i n c ws cs
    have hl := align_len h1
    have e : Vanbkh.rowLine (n :: ws) (c :: cs) = [124, 32] ++ (Vanbkh.alignCell n c ++ (32 :: Vanbkh.rowLine ws cs)) := by
      rw [rowLine_cons]
      simp
    rw [e]
    show (((Vanbkh.alignCell n c ++ (32 :: Vanbkh.rowLine ws cs))).take n) :: Vanbkh.cellContents ws (([124, 32] ++ (Vanbkh.alignCell n c ++ (32 :: Vanbkh.rowLine ws cs))).drop (n + 3)) = _
    rw [List.take_left' hl, show n + 3 = 2 + (n + 1) by omega, ← List.drop_drop]
    show _ :: Vanbkh.cellContents ws ((Vanbkh.alignCell n c ++ (32 :: Vanbkh.rowLine ws cs)).drop (n + 1)) = _
    rw [← List.drop_drop, List.drop_left' hl]
    show _ :: Vanbkh.cellContents ws (Vanbkh.rowLine ws cs) = _
    rw [ih]
    rfl
/-! ### a ruler's widths -/
def rulerTail : List Nat → Bytes
  | [] => []
  | n :: r => List.replicate (n + 2) 45 ++ 43 :: rulerTail r
theorem ruler_tail : ∀ ws : List Nat, Vanbkh.ruler ws = 43 :: rulerTail ws
  | [] => rfl
  | n :: r => by
    have ih := ruler_tail r
    unfold Vanbkh.ruler at ih ⊢
    rw [List.flatMap_cons, List.append_assoc, ih]
    rfl
theorem widths_rep : ∀ (m k : Nat) (rest : Bytes), Vanbkh.rulerWidths k (List.replicate m 45 ++ 43 :: rest) = (k + m - 2) :: Vanbkh.rulerWidths 0 rest
  | 0, k, rest => rfl
  | m + 1, k, rest => by
    show Vanbkh.rulerWidths (k + 1) (List.replicate m 45 ++ 43 :: rest) = _
    rw [widths_rep m (k + 1) rest, show k + 1 + m - 2 = k + (m + 1) - 2 by omega]
theorem widths_tail : ∀ ws : List Nat, Vanbkh.rulerWidths 0 (rulerTail ws) = ws
  | [] => rfl
  | n :: r => by
    show Vanbkh.rulerWidths 0 (List.replicate (n + 2) 45 ++ 43 :: rulerTail r) = _
    rw [widths_rep, widths_tail r, show 0 + (n + 2) - 2 = n by omega]
theorem ruler_ok (ws : List Nat) : (10 : UInt8) ∉ Vanbkh.ruler ws := by
  unfold Vanbkh.ruler
  intro hm
  simp only [List.mem_append, List.mem_flatMap, List.mem_cons, List.mem_replicate, List.not_mem_nil, or_false] at hm
  rcases hm with ⟨n, _, e | e⟩ | e
  · exact absurd e (by decide)
  · exact absurd e.2 (by decide)
  · exact absurd e (by decide)
/-! ### valid tables -/
structure okT (t : Vanbkh.Table) : Prop where
  lo : 1 ≤ t.headers.length
  hi : t.headers.length ≤ 8
  few : t.rows.length ≤ 24
  hd : ∀ h ∈ t.headers, Vanbkh.isValidText h = true
  rows : ∀ r ∈ t.rows, r.length = t.headers.length ∧ ∀ c ∈ r, Vanbkh.isValidCell c = true
theorem okT_iff (t : Vanbkh.Table) : Vanbkh.isValidTable t = true ↔ okT t := by
  unfold Vanbkh.isValidTable
  simp only [Bool.and_eq_true, decide_eq_true_eq, List.all_eq_true, beq_iff_eq]
  constructor
  · rintro ⟨⟨⟨⟨a, b⟩, c⟩, d⟩, e⟩
    exact ⟨a, b, c, d, e⟩
  · rintro ⟨a, b, c, d, e⟩
    exact ⟨⟨⟨⟨a, b⟩, c⟩, d⟩, e⟩
theorem okT.good {t : Vanbkh.Table} (h : okT t) : goodT t := ⟨h.lo, fun r hr => (h.rows r hr).1⟩
theorem fits_get {ws : List Nat} {cs : List Vanbkh.Cell} (hl : ws.length = cs.length) (h : ∀ k (h1 : k < ws.length) (h2 : k < cs.length), (Vanbkh.printCell cs[k]).length ≤ ws[k]) : Fits ws cs := by
  induction ws generalizing cs with
  | nil =>
    cases cs with
    | nil => exact .nil
    | cons => cases hl
  | cons n ws ih =>
    cases cs with
    | nil => cases hl
    | cons c cs =>
      refine .cons (h 0 (by simp) (by simp)) (ih (by simpa using hl) fun k h1 h2 => ?_)
      exact h (k + 1) (by simpa using h1) (by simpa using h2)
theorem le_maximum {l : List Nat} {x : Nat} (h : x ∈ l) : x ≤ Vanbkh.maximum l := by
  have := le_lmax (l := upI l) (y := (x : Int)) (List.mem_map.mpr ⟨x, h, rfl⟩)
  rw [show lmax (upI l) = (Vanbkh.maximum l : Int) from lmax_nat l] at this
  omega
theorem nat_len (t : Vanbkh.Table) : (Vanbkh.naturalWidths t).length = t.headers.length := by
  unfold Vanbkh.naturalWidths
  rw [List.length_map, List.length_range]
theorem nat_get (t : Vanbkh.Table) (k : Nat) (h : k < (Vanbkh.naturalWidths t).length) : (Vanbkh.naturalWidths t)[k] = Vanbkh.naturalWidth t k := by simp [Vanbkh.naturalWidths]
theorem fits_head (t : Vanbkh.Table) : Fits (Vanbkh.naturalWidths t) (t.headers.map Vanbkh.Cell.text) := by
  refine fits_get (by rw [nat_len, List.length_map]) fun k h1 h2 => ?_
  rw [nat_get, List.getElem_map]
  rw [nat_len] at h1
  unfold Vanbkh.naturalWidth
  rw [List.getElem?_eq_getElem h1]
  exact le_maximum (List.mem_cons_self ..)
theorem fits_row {t : Vanbkh.Table} (h : goodT t) {r : List Vanbkh.Cell} (hr : r ∈ t.rows) : Fits (Vanbkh.naturalWidths t) r := by
  refine fits_get (by rw [nat_len, h.rows r hr]) fun k h1 h2 => ?_
  rw [nat_get]
  unfold Vanbkh.naturalWidth
  refine le_maximum (List.mem_cons_of_mem _ (List.mem_map.mpr ⟨r[k], ?_, rfl⟩))
  unfold Vanbkh.column
  exact List.mem_filterMap.mpr ⟨r, hr, List.getElem?_eq_getElem h2⟩
theorem lines_split {t : Vanbkh.Table} (h : goodT t) : Vanbkh.splitAtByte 10 (Vanbkh.tableText t) = Vanbkh.tableWith (Vanbkh.naturalWidths t) t := by
  unfold Vanbkh.tableText
  refine split_join _ (by unfold Vanbkh.tableWith; simp) fun l hl => ?_
  unfold Vanbkh.tableWith at hl
  simp only [List.mem_append, List.mem_cons, List.not_mem_nil, or_false, List.mem_map] at hl
  rcases hl with ((rfl | rfl | rfl) | ⟨r, hr, rfl⟩) | rfl
  · exact ruler_ok _
  · exact rowLine_ok (fits_head t)
  · exact ruler_ok _
  · exact rowLine_ok (fits_row h hr)
  · exact ruler_ok _
/-! ### a cell read back -/
theorem parse_quote (r : Bytes) : Vanbkh.parseNumber (34 :: r) = none := by
  unfold Vanbkh.parseNumber
  have h1 : ((34 :: r : Bytes).head? == some 45) = false := by
    show (some (34 : UInt8) == some 45) = false
    decide
  dsimp only
  rw [h1]
  simp
theorem unescape_esc (c : UInt8) (r : Bytes) (hr : r ≠ []) : Vanbkh.unescape (Vanbkh.escape c ++ r) = (Vanbkh.unescape r).map fun t => c :: t := by
  by_cases a : c = 34
  · subst a; rfl
  by_cases b : c = 92
  · subst b; rfl
  by_cases d : c = 10
  · subst d; rfl
  by_cases e : c = 124
  · subst e; rfl
  by_cases f : c = 126
  · subst f; rfl
  have g : Vanbkh.escape c = [c] := by
    unfold Vanbkh.escape
    rw [beq_false_of_ne a, beq_false_of_ne b, beq_false_of_ne d, beq_false_of_ne e, beq_false_of_ne f]
    rfl
  rw [g]
  show Vanbkh.unescape (c :: r) = _
  rw [Vanbkh.unescape.eq_def]
  split <;> simp_all
theorem unescape_all : ∀ t : Bytes, Vanbkh.unescape (t.flatMap Vanbkh.escape ++ [34]) = some t
  | [] => rfl
  | c :: r => by
    rw [List.flatMap_cons, List.append_assoc, unescape_esc c _ (by simp), unescape_all r]
    rfl
theorem parseCell_of {l : Bytes} {c : Vanbkh.Cell} (h : Vanbkh.trim l = Vanbkh.printCell c) : Vanbkh.parseCell l = c := by
  unfold Vanbkh.parseCell
  rw [h]
  cases c with
  | number z =>
    rw [show Vanbkh.printCell (.number z) = Vanbkh.decimal z from rfl, parse_decimal]
  | text t =>
    show (match Vanbkh.parseNumber (if Vanbkh.isPlain t = true then t else [34] ++ t.flatMap Vanbkh.escape ++ [34]) with
      | some z => Vanbkh.Cell.number z
      | none => match (if Vanbkh.isPlain t = true then t else [34] ++ t.flatMap Vanbkh.escape ++ [34]) with
        | 34 :: r => .text ((Vanbkh.unescape r).getD [])
        | t => .text t) = _
    by_cases p : Vanbkh.isPlain t = true
    · rw [if_pos p]
      obtain ⟨h1, h2, _, _, h5⟩ := plain_parts p
      rw [h5]
      cases t with
      | nil => exact absurd rfl h1
      | cons x r =>
        have hx := (plain_ne (h2 x (List.mem_cons_self ..))).2.1
        dsimp only
        split
        · rename_i e
          injection e with e1 e2
          exact absurd e1 hx
        · rfl
    · rw [if_neg p]
      show (match Vanbkh.parseNumber (34 :: (t.flatMap Vanbkh.escape ++ [34])) with
        | some z => Vanbkh.Cell.number z
        | none => .text ((Vanbkh.unescape (t.flatMap Vanbkh.escape ++ [34])).getD [])) = _
      rw [parse_quote, unescape_all]
      rfl
theorem validNumber {z : Int} (h : Vanbkh.isValidNumber z = true) : z.natAbs < 10 ^ 30 := by
  unfold Vanbkh.isValidNumber at h
  rw [Bool.and_eq_true] at h
  have a := of_decide_eq_true h.1
  have b := of_decide_eq_true h.2
  have e30 : (10 : Int) ^ 30 = 1000000000000000000000000000000 := by decide
  have n30 : (10 : Nat) ^ 30 = 1000000000000000000000000000000 := by decide
  rw [e30] at a b
  rw [n30]
  omega
theorem valid_okC {c : Vanbkh.Cell} (h : Vanbkh.isValidCell c = true) : okC (cellR c) := by
  cases c with
  | number z => exact ⟨Nat.lt_trans (validNumber h) (by decide), Nat.zero_le _⟩
  | text t =>
    have h : Vanbkh.isValidText t = true := h
    unfold Vanbkh.isValidText at h
    rw [Bool.and_eq_true] at h
    have := of_decide_eq_true h.1
    refine ⟨by show (0 : Int).natAbs < _; decide, ?_⟩
    show (ofB t).length ≤ 200
    rw [ofB_length]
    exact this
theorem printCell_len {c : Vanbkh.Cell} (h : Vanbkh.isValidCell c = true) : (Vanbkh.printCell c).length ≤ 402 := by
  have := (printed_len (valid_okC h)).2
  rw [printed_of, ofB_length] at this
  exact this
theorem readCell_of {l : Bytes} {c : Vanbkh.Cell} (h : Vanbkh.trim l = Vanbkh.printCell c) (hv : Vanbkh.isValidCell c = true) : Vanbkh.readCell l = c := by
  unfold Vanbkh.readCell
  rw [if_neg (by
    rw [h]
    have := printCell_len hv
    show ¬ 402 < _
    omega)]
  exact parseCell_of h
theorem contents_read {ws : List Nat} {cs : List Vanbkh.Cell} (h : Fits ws cs) (hv : ∀ c ∈ cs, Vanbkh.isValidCell c = true) : (Vanbkh.cellContents ws (Vanbkh.rowLine ws cs)).map Vanbkh.readCell = cs := by
  rw [contents_of h]
  induction h with
  | nil => rfl
  | cons h1 h2 ih =>
    rename_i n c ws cs
    show Vanbkh.readCell (Vanbkh.alignCell n c) :: _ = _
    rw [readCell_of (trim_align h1) (hv c (List.mem_cons_self ..))]
    congr 1
    exact ih fun x hx => hv x (List.mem_cons_of_mem _ hx)
theorem candidate_of {t : Vanbkh.Table} (h : okT t) : Vanbkh.tableCandidate (Vanbkh.tableWith (Vanbkh.naturalWidths t) t) = t := by
  have hd : (Vanbkh.tableWith (Vanbkh.naturalWidths t) t).headD [] = Vanbkh.ruler (Vanbkh.naturalWidths t) := rfl
  have h1 : ((Vanbkh.tableWith (Vanbkh.naturalWidths t) t)[1]?).getD [] = Vanbkh.rowLine (Vanbkh.naturalWidths t) (t.headers.map Vanbkh.Cell.text) := rfl
  have h3 : ((Vanbkh.tableWith (Vanbkh.naturalWidths t) t).drop 3).dropLast = t.rows.map (Vanbkh.rowLine (Vanbkh.naturalWidths t)) := by
    show (t.rows.map (Vanbkh.rowLine (Vanbkh.naturalWidths t)) ++ [Vanbkh.ruler (Vanbkh.naturalWidths t)]).dropLast = _
    rw [List.dropLast_concat]
  unfold Vanbkh.tableCandidate
  dsimp only
  rw [hd, h1, h3, ruler_tail]
  have hw : Vanbkh.rulerWidths 0 ((43 :: rulerTail (Vanbkh.naturalWidths t)).drop 1) = Vanbkh.naturalWidths t := widths_tail _
  rw [hw]
  have e1 : (Vanbkh.cellContents (Vanbkh.naturalWidths t) (Vanbkh.rowLine (Vanbkh.naturalWidths t) (t.headers.map Vanbkh.Cell.text))).map (fun l => Vanbkh.textOf (Vanbkh.readCell l)) = t.headers := by
    have z := contents_read (fits_head t) fun c hc => by
      obtain ⟨x, hx, rfl⟩ := List.mem_map.mp hc
      exact h.hd x hx
    have z2 := congrArg (List.map Vanbkh.textOf) z
    rw [List.map_map, List.map_map] at z2
    rw [show (fun l => Vanbkh.textOf (Vanbkh.readCell l)) = Vanbkh.textOf ∘ Vanbkh.readCell from rfl, z2]
    exact List.map_id _
  have e2 : (t.rows.map (Vanbkh.rowLine (Vanbkh.naturalWidths t))).map (fun r => (Vanbkh.cellContents (Vanbkh.naturalWidths t) r).map Vanbkh.readCell) = t.rows := by
    rw [List.map_map]
    conv => rhs; rw [← List.map_id t.rows]
    refine List.map_congr_left fun r hr => ?_
    exact contents_read (fits_row h.good hr) (h.rows r hr).2
  rw [e1, e2]
/-- the specification reads every valid table back -/
theorem parse_text {t : Vanbkh.Table} (h : okT t) : Vanbkh.parseTable (Vanbkh.tableText t) = some t := by
  unfold Vanbkh.parseTable
  dsimp only
  rw [lines_split h.good, candidate_of h]
  have hw : (Vanbkh.rulerWidths 0 (((Vanbkh.tableWith (Vanbkh.naturalWidths t) t).headD []).drop 1)) = Vanbkh.naturalWidths t := by
    show Vanbkh.rulerWidths 0 ((Vanbkh.ruler (Vanbkh.naturalWidths t)).drop 1) = _
    rw [ruler_tail]
    exact widths_tail _
  have hl : (Vanbkh.tableWith (Vanbkh.naturalWidths t) t).length = t.rows.length + 4 := by
    unfold Vanbkh.tableWith
    rw [List.length_append, List.length_append, List.length_map]
    show 3 + _ + 1 = _
    omega
  rw [hw, nat_len, hl, (okT_iff t).mpr h]
  have h2 := h.hi
  have h3 := h.few
  rw [if_neg (by
    rw [Bool.or_eq_true, decide_eq_true_eq, decide_eq_true_eq]
    show ¬ (8 < _ ∨ 24 + 4 < _)
    omega), beq_self_eq_true]
  rfl
end R
end
section
set_option Elab.async false
set_option linter.all false
/-! Reading a table: the mirror's reader; the two agree. -/
namespace R
open Vanbkh (Bytes)
/-! ### without the outer spaces -/
theorem solid_cons (x : Int) (l : B) : solidPlaces (x :: l) = (if x = 32 then [] else [0]) ++ (solidPlaces l).map (· + 1) := by
  unfold solidPlaces
  rw [List.zipIdx_cons, List.filter_cons]
  have e : ((l.zipIdx (0 + 1)).filter fun p => !decide (p.1 = 32)).map (fun p => (p.2 : Int)) = (((l.zipIdx).filter fun p => !decide (p.1 = 32)).map fun p => (p.2 : Int)).map (· + 1) := by
    rw [show l.zipIdx (0 + 1) = (l.zipIdx 0).map fun p => (p.1, p.2 + 1) from by
      rw [List.zipIdx_succ]
      ]
    rw [List.filter_map, List.map_map, List.map_map]
    rfl
  by_cases c : x = 32
  · rw [if_pos c, c]
    exact e
  · rw [if_neg c]
    have : (!decide (x = 32)) = true := by rw [decide_eq_false c]; rfl
    simp only [this, if_true, List.map_cons]
    rw [e]
    rfl
theorem withoutOuter_space (l : B) : withoutOuter (32 :: l) = withoutOuter l := by
  unfold withoutOuter
  rw [solid_cons, if_pos rfl, List.nil_append, List.head?_map, List.getLast?_map]
  have hp := solid_lt l
  cases h1 : (solidPlaces l).head? with
  | none => rfl
  | some i =>
    have hi := hp i (List.mem_of_mem_head? h1)
    cases h2 : (solidPlaces l).getLast? with
    | none => rfl
    | some k =>
      have hk := hp k (List.mem_of_getLast? h2)
      show ((32 :: l).drop (i + 1).toNat).take ((k + 1 + 1).toNat - (i + 1).toNat) = (l.drop i.toNat).take ((k + 1).toNat - i.toNat)
      rw [show (i + 1).toNat = i.toNat + 1 by omega, show (k + 1 + 1).toNat - (i.toNat + 1) = (k + 1).toNat - i.toNat by omega]
      rfl
theorem withoutOuter_solid (x : Int) (l : B) (h : ¬ x = 32) : withoutOuter (x :: l) = withoutLast (x :: l) := by
  unfold withoutOuter withoutLast
  rw [solid_cons, if_neg h]
  have e : (([0] : List Int) ++ (solidPlaces l).map (fun z : Int => z + 1)).head? = some 0 := rfl
  rw [e]
  generalize (([0] : List Int) ++ (solidPlaces l).map (fun z : Int => z + 1)).getLast? = o
  cases o <;> rfl
theorem withoutOuter_of : ∀ l : Bytes, withoutOuter (ofB l) = ofB (Vanbkh.trim l)
  | [] => rfl
  | x :: l => by
    by_cases c : x = 32
    · subst c
      rw [trim_space, ofB_cons, ← withoutOuter_of l]
      exact withoutOuter_space (ofB l)
    · have hx : ((x.toNat : Int) = 32) ↔ x = 32 := u8_is x 32 (by decide)
      rw [trim_solid x l c, ofB_cons, withoutOuter_solid _ _ (fun e => c (hx.mp e)), ← ofB_cons, withoutLast_of]
theorem rowForms_of {ws : List Nat} {cs : List Vanbkh.Cell} (h : Fits ws cs) : rowForms (ofB (Vanbkh.rowLine ws cs)) = cs.map fun c => ofB (Vanbkh.printCell c) := by
  unfold rowForms
  rw [show parts (ofB (Vanbkh.rowLine ws cs)) 124 = (Vanbkh.splitAtByte 124 (Vanbkh.rowLine ws cs)).map ofB from parts_of _ 124, rowLine_body h, split_cons, if_pos (beq_self_eq_true _), split_body h]
  rw [← List.map_drop, ← List.map_dropLast, List.map_map]
  show ((((ws.zip cs).map (fun (x : Nat × Vanbkh.Cell) => 32 :: (Vanbkh.alignCell x.1 x.2 ++ [32])) ++ [[]])).dropLast).map _ = _
  rw [List.dropLast_concat, List.map_map]
  induction h with
  | nil => rfl
  | cons h1 h2 ih =>
    rename_i n c ws cs
    rw [List.zip_cons_cons, List.map_cons, List.map_cons, ih]
    congr 1
    show withoutOuter (ofB (32 :: (Vanbkh.alignCell n c ++ [32]))) = _
    rw [withoutOuter_of, trim_piece h1]
/-! ### a cell -/
theorem unq_esc (c : UInt8) (acc : B) : (ofB (Vanbkh.escape c)).foldl unqStep (acc, false) = (acc ++ [(c.toNat : Int)], false) := by
  by_cases a : c = 34
  · subst a; rfl
  by_cases b : c = 92
  · subst b; rfl
  by_cases d : c = 10
  · subst d; rfl
  by_cases e : c = 124
  · subst e; rfl
  by_cases f : c = 126
  · subst f; rfl
  have g : Vanbkh.escape c = [c] := by
    unfold Vanbkh.escape
    rw [beq_false_of_ne a, beq_false_of_ne b, beq_false_of_ne d, beq_false_of_ne e, beq_false_of_ne f]
    rfl
  have hc : ((c.toNat : Int) = 92) ↔ c = 92 := u8_is c 92 (by decide)
  rw [g]
  show unqStep (acc, false) (c.toNat : Int) = _
  unfold unqStep
  rw [if_neg (show ¬ false = true by decide), if_neg (fun e => b (hc.mp e))]
theorem unq_all : ∀ (t : Bytes) (acc : B), (ofB (t.flatMap Vanbkh.escape)).foldl unqStep (acc, false) = (acc ++ ofB t, false)
  | [], acc => by
    show (acc, false) = (acc ++ [], false)
    rw [List.append_nil]
  | c :: r, acc => by
    rw [List.flatMap_cons, ofB_append, List.foldl_append, unq_esc, unq_all r, ofB_cons, List.append_assoc]
    rfl
theorem unquoted_of (t : Bytes) : unquoted (ofB ([34] ++ t.flatMap Vanbkh.escape ++ [34])) = ofB t := by
  unfold unquoted
  have e : ((ofB ([34] ++ t.flatMap Vanbkh.escape ++ [34])).drop 1).dropLast = ofB (t.flatMap Vanbkh.escape) := by
    rw [List.append_assoc]
    show (ofB (t.flatMap Vanbkh.escape ++ [34])).dropLast = _
    rw [ofB_append]
    exact List.dropLast_concat
  rw [e, unq_all]
  rfl
theorem isText_of (t : Bytes) : isText (ofB t) = Vanbkh.isValidText t := by
  unfold isText Vanbkh.isValidText
  rw [ofB_length]
  congr 1
  · exact decide_eq_decide.mpr (by show (t.length : Int) ≤ 200 ↔ t.length ≤ 200; omega)
  · unfold ofB
    rw [List.all_map]
    congr 1
    funext c
    show isTextByte (c.toNat : Int) = Vanbkh.isTextByte c
    unfold isTextByte Vanbkh.isTextByte
    have hc : ((c.toNat : Int) = 10) ↔ c = 10 := u8_is c 10 (by decide)
    congr 1
    · by_cases h : c = 10
      · rw [decide_eq_true (hc.mpr h), h]; rfl
      · rw [decide_eq_false (fun e => h (hc.mp e)), beq_false_of_ne h]
    · have h1 : (32 ≤ (c.toNat : Int)) ↔ (32 ≤ c) := by
        rw [UInt8.le_iff_toNat_le]
        show _ ↔ 32 ≤ c.toNat
        omega
      have h2 : ((c.toNat : Int) ≤ 126) ↔ (c ≤ 126) := by
        rw [UInt8.le_iff_toNat_le]
        show _ ↔ c.toNat ≤ 126
        omega
      rw [decide_eq_decide.mpr h1, decide_eq_decide.mpr h2]
theorem cellRead_text {p t : Bytes} (h : Vanbkh.parseNumber p = none) (ht : cellText (ofB p) = ofB t) (hv : Vanbkh.isValidText t = true) : cellRead (ofB p) = (true, textCell (ofB t)) := by
  unfold cellRead
  rw [isDecimal_of, h, if_neg (by decide), ht, isText_of, hv]
theorem cellRead_of {c : Vanbkh.Cell} (h : Vanbkh.isValidCell c = true) : cellRead (ofB (Vanbkh.printCell c)) = (true, cellR c) := by
  cases c with
  | number z =>
    unfold cellRead
    rw [show Vanbkh.printCell (.number z) = Vanbkh.decimal z from rfl, isDecimal_of, parse_decimal, if_pos (show (some z).isSome = true from rfl)]
    unfold numberRead
    have hz := validNumber h
    have hl : ¬ 30 < ((ofB (Vanbkh.decimal z)).length : Int) - signLength (ofB (Vanbkh.decimal z)) := by
      rw [ofB_length, signLength_of]
      by_cases n : 0 ≤ z
      · rw [decimal_nonneg n]
        have hd := (dig_len_le (n := z.toNat) (k := 30) (by decide)).mpr (by omega)
        have hh : ((dig z.toNat).head? == some 45) = false := by
          cases e : dig z.toNat with
          | nil => rfl
          | cons x r =>
            have := dig_mem (n := z.toNat) (c := x) (by rw [e]; exact List.mem_cons_self ..)
            refine beq_false_of_ne fun q => ?_
            have : x = 45 := Option.some.inj q
            subst this
            exact absurd this (by decide)
        rw [hh, if_neg (by decide)]
        omega
      · rw [decimal_neg (by omega)]
        have hd := (dig_len_le (n := (-z).toNat) (k := 30) (by decide)).mpr (by omega)
        rw [show ((45 :: dig (-z).toNat).head? == some 45) = true from rfl, if_pos rfl, List.length_cons]
        omega
    rw [if_neg hl, decimalValue_of _ (parse_decimal z)]
    rfl
  | text t =>
    have hv : Vanbkh.isValidText t = true := h
    show cellRead (ofB (if Vanbkh.isPlain t = true then t else [34] ++ t.flatMap Vanbkh.escape ++ [34])) = (true, textCell (ofB t))
    by_cases p : Vanbkh.isPlain t = true
    · rw [if_pos p]
      obtain ⟨h1, h2, _, _, h5⟩ := plain_parts p
      refine cellRead_text h5 ?_ hv
      unfold cellText
      rw [if_neg]
      cases t with
      | nil => exact absurd rfl h1
      | cons x r =>
        have hx := (plain_ne (h2 x (List.mem_cons_self ..))).2.1
        intro e
        have : (x.toNat : Int) = 34 := by
          injection e with e1 e2
        exact hx ((show ((x.toNat : Int) = 34) ↔ x = 34 from u8_is x 34 (by decide)).mp this)
    · rw [if_neg p]
      refine cellRead_text (parse_quote _) ?_ hv
      unfold cellText
      rw [if_pos (show (ofB ([34] ++ t.flatMap Vanbkh.escape ++ [34])).take 1 = [34] from rfl)]
      exact unquoted_of t
theorem cellsRead_of : ∀ cs : List Vanbkh.Cell, (∀ c ∈ cs, Vanbkh.isValidCell c = true) → cellsReadGo (cs.map fun c => ofB (Vanbkh.printCell c)) = some (cs.map cellR)
  | [], _ => rfl
  | c :: r, h => by
    show (match cellRead (ofB (Vanbkh.printCell c)) with
      | (false, _) => none
      | (true, x) => (cellsReadGo (r.map fun c => ofB (Vanbkh.printCell c))).map fun l => x :: l) = _
    rw [cellRead_of (h c (List.mem_cons_self ..)), cellsRead_of r fun x hx => h x (List.mem_cons_of_mem _ hx)]
    rfl
theorem formsRead_of {ws : List Nat} {n : Nat} : ∀ rows : List (List Vanbkh.Cell), (∀ r ∈ rows, Fits ws r ∧ r.length = n) → formsReadGo (n : Int) (rows.map fun r => ofB (Vanbkh.rowLine ws r)) = some (rows.flatten.map fun c => ofB (Vanbkh.printCell c))
  | [], _ => rfl
  | r :: s, h => by
    obtain ⟨h1, h2⟩ := h r (List.mem_cons_self ..)
    show (if ((rowForms (ofB (Vanbkh.rowLine ws r))).length : Int) = (n : Int) then (formsReadGo (n : Int) (s.map fun r => ofB (Vanbkh.rowLine ws r))).map fun x => rowForms (ofB (Vanbkh.rowLine ws r)) ++ x else none) = _
    rw [rowForms_of h1, List.length_map, if_pos (by omega), formsRead_of s fun x hx => h x (List.mem_cons_of_mem _ hx), List.flatten_cons, List.map_append]
    rfl
def cellsT (t : Vanbkh.Table) : List Vanbkh.Cell := (t.headers.map Vanbkh.Cell.text :: t.rows).flatten
theorem tabR_cells (t : Vanbkh.Table) : tabR t = (cellsT t).map cellR := by
  unfold tabR cellsT rowsR headR
  rw [List.map_flatten, List.map_cons, List.map_map]
  rfl
/-- the mirror reads every valid table back -/
theorem tableRead_of {t : Vanbkh.Table} (h : okT t) : tableRead (ofB (Vanbkh.tableText t)) = ((t.headers.length : Int), tabR t) := by
  have h1 := h.lo
  have h2 := h.hi
  have h3 := h.few
  have hp : parts (ofB (Vanbkh.tableText t)) 10 = (Vanbkh.tableWith (Vanbkh.naturalWidths t) t).map ofB := by rw [parts10, lines_split h.good]
  have hl : (Vanbkh.tableWith (Vanbkh.naturalWidths t) t).length = t.rows.length + 4 := by
    unfold Vanbkh.tableWith
    rw [List.length_append, List.length_append, List.length_map]
    show 3 + _ + 1 = _
    omega
  have e1 : (parts (ofB (Vanbkh.tableText t)) 10).getD 1 [] = ofB (Vanbkh.rowLine (Vanbkh.naturalWidths t) (t.headers.map Vanbkh.Cell.text)) := by rw [hp]; rfl
  have hfo : rowForms (ofB (Vanbkh.rowLine (Vanbkh.naturalWidths t) (t.headers.map Vanbkh.Cell.text))) = (t.headers.map Vanbkh.Cell.text).map fun c => ofB (Vanbkh.printCell c) := rowForms_of (fits_head t)
  have e2 : ((parts (ofB (Vanbkh.tableText t)) 10).drop 3).dropLast = t.rows.map fun r => ofB (Vanbkh.rowLine (Vanbkh.naturalWidths t) r) := by
    rw [hp, ← List.map_drop, ← List.map_dropLast]
    show ((t.rows.map (Vanbkh.rowLine (Vanbkh.naturalWidths t)) ++ [Vanbkh.ruler (Vanbkh.naturalWidths t)]).dropLast).map ofB = _
    rw [List.dropLast_concat, List.map_map]
    rfl
  have hforms : formsReadGo (t.headers.length : Int) ((parts (ofB (Vanbkh.tableText t)) 10).getD 1 [] :: ((parts (ofB (Vanbkh.tableText t)) 10).drop 3).dropLast) = some ((cellsT t).map fun c => ofB (Vanbkh.printCell c)) := by
    rw [e1, e2]
    exact formsRead_of (ws := Vanbkh.naturalWidths t) (n := t.headers.length) (t.headers.map Vanbkh.Cell.text :: t.rows) fun r hr => by
      rcases List.mem_cons.mp hr with rfl | hr
      · exact ⟨fits_head t, List.length_map _⟩
      · exact ⟨fits_row h.good hr, (h.rows r hr).1⟩
  have hcells : cellsReadGo ((cellsT t).map fun c => ofB (Vanbkh.printCell c)) = some (tabR t) := by
    rw [tabR_cells]
    refine cellsRead_of _ fun c hc => ?_
    unfold cellsT at hc
    rw [List.flatten_cons] at hc
    rcases List.mem_append.mp hc with hc | hc
    · obtain ⟨x, hx, rfl⟩ := List.mem_map.mp hc
      exact h.hd x hx
    · obtain ⟨r, hr, hc⟩ := List.mem_flatten.mp hc
      exact (h.rows r hr).2 c hc
  have hcols : ((rowForms ((parts (ofB (Vanbkh.tableText t)) 10).getD 1 [])).length : Int) = (t.headers.length : Int) := by
    rw [e1, hfo, List.length_map, List.length_map]
  have hany : ((tabR t).take t.headers.length).any isNumber = false := by
    unfold tabR rowsR
    rw [List.flatten_cons, List.take_left' (headR_len t)]
    unfold headR
    rw [List.any_map]
    exact List.any_eq_false.mpr fun x _ => by
      show ¬ (decide ((1 : Int) = 0)) = true
      decide
  unfold tableRead
  dsimp only
  rw [hcols, hforms]
  dsimp only
  rw [hcells]
  dsimp only
  rw [hp, List.length_map, hl, if_neg (by omega), if_neg (by omega), Int.toNat_natCast, hany, if_neg (by decide), fullText_of h.good, if_pos rfl]
/-! ### a table of its cells -/
theorem rowsOf_spec {n : Nat} (hn : 0 < n) : ∀ (f m : Nat) (l : List Vanbkh.Cell), l.length = m * n → m ≤ f → (Vanbkh.rowsOf n f l).flatten = l ∧ even n (Vanbkh.rowsOf n f l) ∧ (Vanbkh.rowsOf n f l).length = m
  | 0, m, l, hl, hf => by
    obtain rfl : m = 0 := by omega
    have : l = [] := List.length_eq_zero_iff.mp (by omega)
    subst this
    exact ⟨rfl, fun x hx => absurd hx List.not_mem_nil, rfl⟩
  | f + 1, 0, l, hl, _ => by
    have : l = [] := List.length_eq_zero_iff.mp (by omega)
    subst this
    exact ⟨rfl, fun x hx => absurd hx List.not_mem_nil, rfl⟩
  | f + 1, m + 1, l, hl, hf => by
    rw [Nat.succ_mul] at hl
    have ne : l.isEmpty = false := by
      cases l with
      | nil => rw [List.length_nil] at hl; omega
      | cons => rfl
    unfold Vanbkh.rowsOf
    rw [ne, if_neg (by decide)]
    obtain ⟨a, b, c⟩ := rowsOf_spec hn f m (l.drop n) (by rw [List.length_drop]; omega) (by omega)
    refine ⟨?_, fun x hx => ?_, ?_⟩
    · rw [List.flatten_cons, a, List.take_append_drop]
    · rcases List.mem_cons.mp hx with rfl | hx
      · rw [List.length_take]; omega
      · exact b x hx
    · rw [List.length_cons, c]
def tableOf (n : Nat) (cs : List Vanbkh.Cell) : Vanbkh.Table := { headers := (cs.take n).map Vanbkh.textOf, rows := Vanbkh.rowsOf n cs.length (cs.drop n) }
theorem text_back : ∀ cs : List Vanbkh.Cell, cs.any Vanbkh.isNumber = false → (cs.map Vanbkh.textOf).map Vanbkh.Cell.text = cs
  | [], _ => rfl
  | .number z :: r, h => by cases h
  | .text t :: r, h => by
    rw [List.map_cons, List.map_cons, text_back r h]
    rfl
theorem tableOf_spec {n m : Nat} (hn : 0 < n) (cs : List Vanbkh.Cell) (hl : cs.length = (m + 1) * n) (ha : (cs.take n).any Vanbkh.isNumber = false) :
    goodT (tableOf n cs) ∧ (tableOf n cs).headers.length = n ∧ (tableOf n cs).rows.length = m ∧ cellsT (tableOf n cs) = cs ∧ ∀ r ∈ (tableOf n cs).rows, r.length = n := by
  have hl' := hl
  rw [Nat.succ_mul] at hl'
  have hml : m ≤ cs.length := by
    have := Nat.le_mul_of_pos_right m hn
    omega
  obtain ⟨a, b, c⟩ := rowsOf_spec hn cs.length m (cs.drop n) (by rw [List.length_drop]; omega) hml
  have hh : (tableOf n cs).headers.length = n := by
    show ((cs.take n).map Vanbkh.textOf).length = n
    rw [List.length_map, List.length_take]
    omega
  refine ⟨⟨by omega, fun r hr => by rw [hh]; exact b r hr⟩, hh, c, ?_, b⟩
  show (((cs.take n).map Vanbkh.textOf).map Vanbkh.Cell.text :: Vanbkh.rowsOf n cs.length (cs.drop n)).flatten = cs
  rw [List.flatten_cons, text_back _ ha, a, List.take_append_drop]
theorem any_isNumber (cs : List Vanbkh.Cell) : (cs.map cellR).any isNumber = cs.any Vanbkh.isNumber := by
  rw [List.any_map]
  congr 1
  funext c
  exact isNumber_of c
theorem okT_of {n m : Nat} (hn : 0 < n) (h8 : n ≤ 8) (hm : m ≤ 24) (cs : List Vanbkh.Cell) (hl : cs.length = (m + 1) * n) (ha : (cs.take n).any Vanbkh.isNumber = false) (hv : ∀ c ∈ cs, Vanbkh.isValidCell c = true) : okT (tableOf n cs) := by
  obtain ⟨a, b, c, d, e⟩ := tableOf_spec hn cs hl ha
  have hv2 : ∀ x ∈ cellsT (tableOf n cs), Vanbkh.isValidCell x = true := by rw [d]; exact hv
  refine ⟨by omega, by omega, by omega, fun x hx => ?_, fun r hr => ⟨by rw [b]; exact e r hr, fun x hx => ?_⟩⟩
  · exact hv2 (.text x) (List.mem_flatten.mpr ⟨_, List.mem_cons_self .., List.mem_map.mpr ⟨x, hx, rfl⟩⟩)
  · exact hv2 x (List.mem_flatten.mpr ⟨r, List.mem_cons_of_mem _ hr, hx⟩)
/-! ### what the mirror accepts -/
theorem bytes_back {b : B} (h : ∀ x ∈ b, 0 ≤ x ∧ x ≤ 255) : ofB (Vanbkh.bytesOf b) = b := by
  unfold ofB Vanbkh.bytesOf
  rw [List.map_map]
  conv => rhs; rw [← List.map_id b]
  refine List.map_congr_left fun x hx => ?_
  have := h x hx
  show ((UInt8.ofNat x.toNat).toNat : Int) = x
  rw [UInt8.toNat_ofNat', Nat.mod_eq_of_lt (by omega)]
  omega
theorem isText_bytes {b : B} (h : isText b = true) : ∀ x ∈ b, 0 ≤ x ∧ x ≤ 255 := fun x hx => by
  unfold isText at h
  rw [Bool.and_eq_true] at h
  have := List.all_eq_true.mp h.2 x hx
  unfold isTextByte at this
  rcases Bool.or_eq_true_iff.mp this with h | h
  · have := of_decide_eq_true h
    omega
  · rw [Bool.and_eq_true] at h
    have a := of_decide_eq_true h.1
    have b := of_decide_eq_true h.2
    omega
theorem cellRead_sound {f : B} {c : Cell} (h : cellRead f = (true, c)) : ∃ x : Vanbkh.Cell, Vanbkh.isValidCell x = true ∧ cellR x = c := by
  unfold cellRead at h
  split at h
  · rename_i hd
    unfold numberRead at h
    split at h
    · exact absurd (Prod.mk.inj h).1 (by decide)
    · rename_i hl
      obtain rfl := (Prod.mk.inj h).2
      have hb := decimalValue_bound hd (by omega)
      refine ⟨.number (decimalValue f), ?_, rfl⟩
      show Vanbkh.isValidNumber _ = true
      unfold Vanbkh.isValidNumber
      have e30 : (10 : Int) ^ 30 = 1000000000000000000000000000000 := by decide
      have n30 : (10 : Nat) ^ 30 = 1000000000000000000000000000000 := by decide
      rw [n30] at hb
      rw [e30, Bool.and_eq_true, decide_eq_true_eq, decide_eq_true_eq]
      omega
  · obtain ⟨h1, rfl⟩ := Prod.mk.inj h
    have hb := bytes_back (isText_bytes h1)
    refine ⟨.text (Vanbkh.bytesOf (cellText f)), ?_, ?_⟩
    · show Vanbkh.isValidText _ = true
      rw [← isText_of, hb]
      exact h1
    · show textCell (ofB _) = _
      rw [hb]
theorem cellsRead_sound : ∀ {fs : Lines} {cs : List Cell}, cellsReadGo fs = some cs → ∃ xs : List Vanbkh.Cell, (∀ x ∈ xs, Vanbkh.isValidCell x = true) ∧ xs.map cellR = cs
  | [], cs, h => by
    obtain rfl : [] = cs := Option.some.inj h
    exact ⟨[], fun x hx => absurd hx List.not_mem_nil, rfl⟩
  | f :: r, cs, h => by
    unfold cellsReadGo at h
    split at h
    · cases h
    · rename_i c hc
      obtain ⟨ds, hd, rfl⟩ := Option.map_eq_some_iff.mp h
      obtain ⟨xs, a, b⟩ := cellsRead_sound hd
      obtain ⟨x, hx, e⟩ := cellRead_sound hc
      refine ⟨x :: xs, fun y hy => ?_, by rw [List.map_cons, e, b]⟩
      rcases List.mem_cons.mp hy with rfl | hy
      · exact hx
      · exact a y hy
theorem tableRead_sound {text : B} (h : ¬ (tableRead text).1 = 0) : ∃ t : Vanbkh.Table, okT t ∧ text = ofB (Vanbkh.tableText t) ∧ tableRead text = ((t.headers.length : Int), tabR t) := by
  suffices hs : ∃ t : Vanbkh.Table, okT t ∧ text = ofB (Vanbkh.tableText t) by
    obtain ⟨t, h1, h2⟩ := hs
    exact ⟨t, h1, h2, by rw [h2]; exact tableRead_of h1⟩
  revert h
  have eq0 : tableRead text = if ((parts text 10).length : Int) < 4 ∨ 28 < ((parts text 10).length : Int) then (0, [])
    else if ((rowForms ((parts text 10).getD 1 [])).length : Int) < 1 ∨ 8 < ((rowForms ((parts text 10).getD 1 [])).length : Int) then (0, [])
    else match formsReadGo ((rowForms ((parts text 10).getD 1 [])).length : Int) ((parts text 10).getD 1 [] :: ((parts text 10).drop 3).dropLast) with
      | none => (0, [])
      | some forms => match cellsReadGo forms with
        | none => (0, [])
        | some cells => if (cells.take ((rowForms ((parts text 10).getD 1 [])).length : Int).toNat).any isNumber = true then (0, []) else if fullText ((rowForms ((parts text 10).getD 1 [])).length : Int) cells = text then (((rowForms ((parts text 10).getD 1 [])).length : Int), cells) else (0, []) := rfl
  rw [eq0]
  generalize parts text 10 = lines
  generalize lines.getD 1 [] = l1
  generalize (rowForms l1).length = n
  by_cases c1 : (lines.length : Int) < 4 ∨ 28 < (lines.length : Int)
  · rw [if_pos c1]; exact fun h => absurd rfl h
  rw [if_neg c1]
  by_cases c2 : (n : Int) < 1 ∨ 8 < (n : Int)
  · rw [if_pos c2]; exact fun h => absurd rfl h
  rw [if_neg c2]
  cases hf : formsReadGo (n : Int) (l1 :: (lines.drop 3).dropLast) with
  | none => exact fun h => absurd rfl h
  | some forms =>
    dsimp only
    obtain ⟨fl, _⟩ := formsRead_ok hf
    cases hc : cellsReadGo forms with
    | none => exact fun h => absurd rfl h
    | some cells =>
      dsimp only
      rw [Int.toNat_natCast]
      cases ha : (cells.take n).any isNumber with
      | true => rw [if_pos rfl]; exact fun h => absurd rfl h
      | false =>
        rw [if_neg (by decide)]
        by_cases ht : fullText (n : Int) cells = text
        · intro _
          obtain ⟨xs, hv, rfl⟩ := cellsRead_sound hc
          have hcl := (cellsRead_ok hc).1
          rw [List.length_map] at hcl
          rw [← List.map_take, any_isNumber] at ha
          have hll : (l1 :: (lines.drop 3).dropLast).length = lines.length - 4 + 1 := by
            rw [List.length_cons, List.length_dropLast, List.length_drop]
            omega
          rw [hll] at fl
          have hxl : xs.length = (lines.length - 4 + 1) * n := by
            have : (xs.length : Int) = (n : Int) * ((lines.length - 4 + 1 : Nat) : Int) := by rw [hcl]; exact fl
            rw [← Int.natCast_mul] at this
            have := Int.ofNat.inj this
            rw [this, Nat.mul_comm]
          have hok := okT_of (n := n) (m := lines.length - 4) (by omega) (by omega) (by omega) xs hxl ha hv
          obtain ⟨g, b, c, d, e⟩ := tableOf_spec (n := n) (m := lines.length - 4) (by omega) xs hxl ha
          refine ⟨tableOf n xs, hok, ?_⟩
          have z := fullText_of g
          rw [b, tabR_cells, d] at z
          rw [← ht, z]
        · rw [if_neg ht]; exact fun h => absurd rfl h
/-- the two readers agree -/
theorem read_agree (text : B) : (tableRead text).1 = 0 ∧ Vanbkh.readBytes text = none ∨ ∃ t, okT t ∧ tableRead text = ((t.headers.length : Int), tabR t) ∧ Vanbkh.readBytes text = some t := by
  by_cases h : (tableRead text).1 = 0
  · refine .inl ⟨h, ?_⟩
    unfold Vanbkh.readBytes
    split
    · rename_i hall
      cases hp : Vanbkh.parseTable (Vanbkh.bytesOf text) with
      | none => rfl
      | some t =>
        exfalso
        have hb : ∀ x ∈ text, 0 ≤ x ∧ x ≤ 255 := fun x hx => by
          have := List.all_eq_true.mp hall x hx
          unfold Vanbkh.isBetween at this
          rw [Bool.and_eq_true, decide_eq_true_eq, decide_eq_true_eq] at this
          exact this
        have hsound : okT t ∧ Vanbkh.tableText t = Vanbkh.bytesOf text := by
          unfold Vanbkh.parseTable at hp
          dsimp only at hp
          split at hp
          · cases hp
          · split at hp
            · rename_i hq
              rw [Bool.and_eq_true] at hq
              obtain rfl := Option.some.inj hp
              exact ⟨(okT_iff _).mp hq.1, beq_iff_eq.mp hq.2⟩
            · cases hp
        have z := tableRead_of hsound.1
        rw [hsound.2, bytes_back hb] at z
        rw [z] at h
        have := hsound.1.lo
        have h : ((t.headers.length : Int)) = 0 := h
        omega
    · rfl
  · obtain ⟨t, h1, h2, h3⟩ := tableRead_sound h
    refine .inr ⟨t, h1, h3, ?_⟩
    unfold Vanbkh.readBytes
    have hb : Vanbkh.bytesOf text = Vanbkh.tableText t := by
      refine ofB_inj ?_
      rw [← h2]
      refine bytes_back fun x hx => ?_
      rw [h2] at hx
      obtain ⟨c, _, rfl⟩ := List.mem_map.mp hx
      have := c.toNat_lt
      omega
    rw [if_pos, hb, parse_text h1]
    refine List.all_eq_true.mpr fun x hx => ?_
    rw [h2] at hx
    obtain ⟨c, _, rfl⟩ := List.mem_map.mp hx
    have := c.toNat_lt
    unfold Vanbkh.isBetween
    rw [Bool.and_eq_true, decide_eq_true_eq, decide_eq_true_eq]
    omega
end R
end
section
set_option Elab.async false
set_option linter.all false
/-! The desk's operations: the mirror is the specification. -/
namespace R
open Vanbkh (Bytes State)
def st (s : State) : Stock := s.items.map toR
def res (r : State × Vanbkh.Answer) : Stock × B := (st r.1, VanbkhNeutral.encode r.2)
structure Inv (s : State) : Prop where
  few : s.items.length ≤ 12
  good : ∀ x ∈ s.items, goodI x
theorem st_len (s : State) : (st s).length = s.items.length := List.length_map _
/-! ### an item of the mirror is in bounds -/
theorem tabOk_of {t : Vanbkh.Table} (h : okT t) : tabOk (t.headers.length : Int) (tabR t) := by
  have h1 := h.lo
  have h2 := h.hi
  have h3 := h.few
  have hl : (tabR t).length = (t.rows.length + 1) * t.headers.length := by
    unfold tabR
    rw [flatten_len (rowsR_even h.good)]
    unfold rowsR
    rw [List.length_cons, List.length_map]
  have e : (t.rows.length + 1) * t.headers.length = t.rows.length * t.headers.length + t.headers.length := Nat.succ_mul ..
  have e2 : t.rows.length * t.headers.length ≤ 24 * t.headers.length := Nat.mul_le_mul_right _ h3
  refine ⟨by omega, by omega, by omega, by omega, ?_, fun c hc => ?_⟩
  · rw [hl, Int.natCast_mul]
    exact Int.mul_emod_left _ _
  · rw [tabR_cells] at hc
    obtain ⟨x, hx, rfl⟩ := List.mem_map.mp hc
    refine valid_okC ?_
    unfold cellsT at hx
    rw [List.flatten_cons] at hx
    rcases List.mem_append.mp hx with hx | hx
    · obtain ⟨y, hy, rfl⟩ := List.mem_map.mp hx
      exact h.hd y hy
    · obtain ⟨r, hr, hx⟩ := List.mem_flatten.mp hx
      exact (h.rows r hr).2 x hx
theorem itemOk_of {x : Vanbkh.Item} (h : goodI x) : itemOk (toR x) := by
  cases x with
  | heading k t => exact (by rw [ofB_length]; exact h.2.2 : (ofB t).length ≤ 200)
  | paragraph t => exact (by rw [ofB_length]; exact h : (ofB t).length ≤ 200)
  | table t => exact tabOk_of ((okT_iff t).mp h.2)
  | plot hh ps =>
    obtain ⟨h1, h2, h3, h4⟩ := h
    refine ⟨by omega, by omega, ?_, ?_, h4⟩
    · rw [flat2_length]; omega
    · rw [flat2_length]; omega
  | check p t => exact (by rw [ofB_length]; exact h : (ofB t).length ≤ 200)
  | bars l =>
    obtain ⟨h1, h2⟩ := h
    refine ⟨by rw [flatBars_length]; omega, by rw [flatBars_length]; omega, fun c hc => ?_⟩
    obtain ⟨x, hx, hc⟩ := List.mem_flatMap.mp hc
    have := h2 x hx
    rcases List.mem_cons.mp hc with rfl | hc
    · refine ⟨?_, Int.le_refl 0, ?_⟩
      · show (ofB x.1).length ≤ 200
        rw [ofB_length]
        exact this.1
      · show (0 : Int) < _
        decide
    · rw [List.mem_singleton.mp hc]
      exact ⟨Nat.zero_le _, this.2.1, this.2.2⟩
theorem stockOk_of {s : State} (h : Inv s) : stockOk (st s) := ⟨by rw [st_len]; exact h.few, fun y hy => by
  obtain ⟨x, hx, rfl⟩ := List.mem_map.mp hy
  exact itemOk_of (h.good x hx)⟩
/-! ### texts, cells -/
theorem isText_eq (l : B) : isText l = Vanbkh.isText l := by
  unfold isText Vanbkh.isText
  congr 1
  exact decide_eq_decide.mpr (by show (l.length : Int) ≤ 200 ↔ l.length ≤ 200; omega)
theorem text_back' {t : B} (h : Vanbkh.isText t = true) : ofB (Vanbkh.bytesOf t) = t ∧ (Vanbkh.bytesOf t).length ≤ 200 := by
  rw [← isText_eq] at h
  refine ⟨bytes_back (isText_bytes h), ?_⟩
  unfold Vanbkh.bytesOf
  rw [List.length_map]
  unfold isText at h
  rw [Bool.and_eq_true] at h
  have := of_decide_eq_true h.1
  omega
def lim (l : B) : Prop := ∀ x ∈ l, -1000000000000000000 ≤ x ∧ x ≤ 1000000000000000000
theorem lim_drop {l : B} (h : lim l) (n : Nat) : lim (l.drop n) := fun x hx => h x (List.mem_of_mem_drop hx)
theorem lim_take {l : B} (h : lim l) (n : Nat) : lim (l.take n) := fun x hx => h x (List.mem_of_mem_take hx)
theorem dec_of : ∀ (f : Nat) (l : B), lim l → decGo f l = (Vanbkh.cellsFrom f l).map (fun cs => cs.map cellR) ∧ ∀ cs, Vanbkh.cellsFrom f l = some cs → ∀ c ∈ cs, Vanbkh.isValidCell c = true
  | 0, [], _ => ⟨rfl, fun cs h c hc => by obtain rfl : [] = cs := Option.some.inj h; exact absurd hc List.not_mem_nil⟩
  | f + 1, [], _ => ⟨rfl, fun cs h c hc => by obtain rfl : [] = cs := Option.some.inj h; exact absurd hc List.not_mem_nil⟩
  | 0, x :: r, _ => ⟨rfl, fun cs h => by cases h⟩
  | f + 1, [x], _ => by
    have e : Vanbkh.cellsFrom (f + 1) [x] = none := by
      rw [Vanbkh.cellsFrom.eq_def]
      split <;> simp_all
    refine ⟨?_, fun cs h => by rw [e] at h; cases h⟩
    rw [e]
    rfl
  | f + 1, z :: n :: r, hb => by
    have hs : decGo (f + 1) (z :: n :: r) = match cell1 (z :: n :: r) with
      | none => none
      | some (k, c) => (decGo f ((z :: n :: r).drop k)).map fun l => c :: l := rfl
    rw [hs, cell1_cc]
    by_cases h0 : z = 0
    · subst h0
      obtain ⟨a, b⟩ := dec_of f r (lim_drop hb 2)
      have hv : Vanbkh.isValidNumber n = true := by
        have := hb n (List.mem_cons_of_mem _ (List.mem_cons_self ..))
        unfold Vanbkh.isValidNumber
        have e30 : (10 : Int) ^ 30 = 1000000000000000000000000000000 := by decide
        rw [e30, Bool.and_eq_true, decide_eq_true_eq, decide_eq_true_eq]
        omega
      have e : Vanbkh.cellsFrom (f + 1) (0 :: n :: r) = (Vanbkh.cellsFrom f r).map fun l => .number n :: l := by
        show (if Vanbkh.isValidNumber n = true then _ else none) = _
        rw [if_pos hv]
      rw [if_pos rfl, e]
      refine ⟨?_, fun cs h => ?_⟩
      · show (decGo f r).map (fun l => numberCell n :: l) = _
        rw [a]
        cases Vanbkh.cellsFrom f r <;> rfl
      · obtain ⟨l, hl, rfl⟩ := Option.map_eq_some_iff.mp h
        intro c hc
        rcases List.mem_cons.mp hc with rfl | hc
        · exact hv
        · exact b l hl c hc
    · by_cases h1 : z = 1
      · subst h1
        rw [if_neg (by decide), if_pos rfl]
        have e : Vanbkh.cellsFrom (f + 1) (1 :: n :: r) = if (Vanbkh.isBetween n 0 200 && (r.take n.toNat).length == n.toNat && Vanbkh.isText (r.take n.toNat)) = true then (Vanbkh.cellsFrom f (r.drop n.toNat)).map fun l => .text (Vanbkh.bytesOf (r.take n.toNat)) :: l else none := rfl
        have hq : (Vanbkh.isBetween n 0 200 && (r.take n.toNat).length == n.toNat && Vanbkh.isText (r.take n.toNat)) = true ↔ (0 ≤ n ∧ n ≤ 200 ∧ n.toNat ≤ r.length ∧ isText (r.take n.toNat) = true) := by
          unfold Vanbkh.isBetween
          rw [Bool.and_eq_true, Bool.and_eq_true, Bool.and_eq_true, decide_eq_true_eq, decide_eq_true_eq, beq_iff_eq, List.length_take, isText_eq]
          constructor
          · rintro ⟨⟨⟨a, b⟩, c⟩, d⟩
            exact ⟨a, b, by omega, d⟩
          · rintro ⟨a, b, c, d⟩
            exact ⟨⟨⟨a, b⟩, by omega⟩, d⟩
        rw [e]
        by_cases c : 0 ≤ n ∧ n ≤ 200 ∧ n.toNat ≤ r.length ∧ isText (r.take n.toNat) = true
        · rw [if_pos c, if_pos (hq.mpr c)]
          obtain ⟨a, b⟩ := dec_of f (r.drop n.toNat) (lim_drop (lim_drop hb 2) _)
          have htx : Vanbkh.isText (r.take n.toNat) = true := by rw [← isText_eq]; exact c.2.2.2
          have hbk := (text_back' htx).1
          refine ⟨?_, fun cs h => ?_⟩
          · show (decGo f ((1 :: n :: r).drop (2 + n.toNat))).map (fun l => textCell (r.take n.toNat) :: l) = _
            rw [show (1 :: n :: r).drop (2 + n.toNat) = r.drop n.toNat by rw [← List.drop_drop]; rfl, a]
            conv => lhs; rw [← hbk]
            cases Vanbkh.cellsFrom f (r.drop n.toNat) <;> rfl
          · obtain ⟨l, hl, rfl⟩ := Option.map_eq_some_iff.mp h
            intro x hx
            rcases List.mem_cons.mp hx with rfl | hx
            · show Vanbkh.isValidText _ = true
              rw [← isText_of, hbk]
              exact c.2.2.2
            · exact b l hl x hx
        · rw [if_neg c, if_neg (fun z => c (hq.mp z))]
          exact ⟨rfl, fun cs h => by cases h⟩
      · rw [if_neg h0, if_neg h1]
        have e : Vanbkh.cellsFrom (f + 1) (z :: n :: r) = none := by
          rw [Vanbkh.cellsFrom.eq_def]
          split <;> simp_all
        rw [e]
        exact ⟨rfl, fun cs h => by cases h⟩
theorem decoded_of {l : B} (h : lim l) : (Vanbkh.decodeCells l = none ∧ decoded l = (false, [])) ∨ ∃ cs, Vanbkh.decodeCells l = some cs ∧ decoded l = (true, cs.map cellR) ∧ ∀ c ∈ cs, Vanbkh.isValidCell c = true := by
  obtain ⟨a, b⟩ := dec_of l.length l h
  have hd : decoded l = match decGo l.length l with
    | none => (false, [])
    | some l => (true, l) := rfl
  rw [a] at hd
  have e : Vanbkh.decodeCells l = Vanbkh.cellsFrom l.length l := rfl
  rw [e]
  cases hc : Vanbkh.cellsFrom l.length l with
  | none => rw [hc] at hd; exact .inl ⟨rfl, hd⟩
  | some cs => rw [hc] at hd; exact .inr ⟨cs, rfl, hd, b cs hc⟩
/-! ### adding -/
theorem first_mem {n : Int} : ∀ {es : List (Bool × Int)}, Vanbkh.firstError es = some n → ∃ e ∈ es, e.2 = n
  | [], h => by cases h
  | (c, m) :: r, h => by
    unfold Vanbkh.firstError at h
    split at h
    · exact ⟨(c, m), List.mem_cons_self .., Option.some.inj h⟩
    · obtain ⟨e, he, q⟩ := first_mem h
      exact ⟨e, List.mem_cons_of_mem _ he, q⟩
theorem added_of {s : State} {c : Int} {nums given : B} {es : List (Bool × Int)} {x : Vanbkh.Item} (hs : Inv s) (hneg : ∀ e ∈ es, e.2 < 0)
    (hn : newItem c nums given = match Vanbkh.firstError es with
      | some n => refused n
      | none => (0, toR x)) (hg : Vanbkh.firstError es = none → goodI x) :
    added (st s) c nums given = res (Vanbkh.appendItem s ((Vanbkh.isFull s, -1) :: es) x) ∧ Inv (Vanbkh.appendItem s ((Vanbkh.isFull s, -1) :: es) x).1 := by
  unfold added
  rw [st_len, hn]
  by_cases hf : 12 ≤ s.items.length
  · have e : Vanbkh.appendItem s ((Vanbkh.isFull s, -1) :: es) x = (s, .error (-1)) := by
      have : Vanbkh.isFull s = true := decide_eq_true hf
      unfold Vanbkh.appendItem
      rw [this]
      rfl
    rw [if_pos (by omega), e]
    exact ⟨rfl, hs⟩
  · have e : Vanbkh.appendItem s ((Vanbkh.isFull s, -1) :: es) x = match Vanbkh.firstError es with
        | some n => (s, .error n)
        | none => ({ items := s.items ++ [x] }, .numbers [Vanbkh.ofNat s.items.length]) := by
      have : Vanbkh.isFull s = false := decide_eq_false hf
      unfold Vanbkh.appendItem
      rw [this]
      rfl
    rw [if_neg (by omega), e]
    cases h : Vanbkh.firstError es with
    | some n =>
      obtain ⟨q, hq, hq2⟩ := first_mem h
      have hn0 := hneg q hq
      rw [hq2] at hn0
      dsimp only
      rw [if_pos (show (refused n).1 < 0 from hn0)]
      exact ⟨rfl, hs⟩
    | none =>
      dsimp only
      rw [if_neg (by decide)]
      refine ⟨?_, ?_, fun y hy => ?_⟩
      · unfold res st
        rw [List.map_append]
        rfl
      · show (s.items ++ [x]).length ≤ 12
        rw [List.length_append, List.length_singleton]
        omega
      · rcases List.mem_append.mp hy with hy | hy
        · exact hs.good y hy
        · rw [List.mem_singleton.mp hy]
          exact hg h
theorem neg_nil : ∀ e ∈ ([] : List (Bool × Int)), e.2 < 0 := fun e h => absurd h List.not_mem_nil
theorem neg_cons {b : Bool} {m : Int} {es : List (Bool × Int)} (h : m < 0) (t : ∀ e ∈ es, e.2 < 0) : ∀ e ∈ (b, m) :: es, e.2 < 0 := fun e he => by
  rcases List.mem_cons.mp he with rfl | he
  · exact h
  · exact t e he
theorem betw_false {n lo hi : Int} : (!Vanbkh.isBetween n lo hi) = true ↔ n < lo ∨ hi < n := by
  unfold Vanbkh.isBetween
  rw [Bool.not_eq_true', Bool.and_eq_false_iff, decide_eq_false_iff_not, decide_eq_false_iff_not]
  omega
theorem notText {t : B} : (!Vanbkh.isText t) = true ↔ isText t = false := by
  rw [isText_eq, Bool.not_eq_true']
theorem perf_heading {s : State} (hs : Inv s) (k : Int) (t : B) : performed (st s) 0 [k] t = res (Vanbkh.step s (.addHeading k t)) ∧ Inv (Vanbkh.step s (.addHeading k t)).1 := by
  refine added_of (c := 0) (nums := [k]) (given := t) (es := [(!Vanbkh.isBetween k 1 3, -2), (!Vanbkh.isText t, -3)]) (x := .heading k.toNat (Vanbkh.bytesOf t)) hs (neg_cons (by decide) (neg_cons (by decide) neg_nil)) ?_ ?_
  · show newHeading k t = _
    unfold newHeading Vanbkh.firstError
    by_cases c1 : k < 1 ∨ 3 < k
    · rw [if_pos c1, if_pos (betw_false.mpr c1)]
    · rw [if_neg c1, if_neg (fun z => c1 (betw_false.mp z))]
      unfold Vanbkh.firstError
      by_cases c2 : isText t = false
      · rw [if_pos c2, if_pos (notText.mpr c2)]
      · rw [if_neg c2, if_neg (fun z => c2 (notText.mp z))]
        show (0, Item.head k t) = (0, Item.head (k.toNat : Int) (ofB (Vanbkh.bytesOf t)))
        have : Vanbkh.isText t = true := by
          rw [← isText_eq]
          cases e : isText t with
          | true => rfl
          | false => exact absurd e c2
        rw [(text_back' this).1, show (k.toNat : Int) = k by omega]
  · intro h
    unfold Vanbkh.firstError at h
    split at h
    · cases h
    · rename_i c1
      unfold Vanbkh.firstError at h
      split at h
      · cases h
      · rename_i c2
        have h1 : ¬ (k < 1 ∨ 3 < k) := fun z => c1 (betw_false.mpr z)
        have : Vanbkh.isText t = true := by
          cases e : Vanbkh.isText t with
          | true => rfl
          | false => rw [e] at c2; exact absurd rfl c2
        exact ⟨by omega, by omega, (text_back' this).2⟩
theorem perf_paragraph {s : State} (hs : Inv s) (t : B) : performed (st s) 1 [] t = res (Vanbkh.step s (.addParagraph t)) ∧ Inv (Vanbkh.step s (.addParagraph t)).1 := by
  refine added_of (c := 1) (nums := []) (given := t) (es := [(!Vanbkh.isText t, -3)]) (x := .paragraph (Vanbkh.bytesOf t)) hs (neg_cons (by decide) neg_nil) ?_ ?_
  · show newParagraph t = _
    unfold newParagraph Vanbkh.firstError
    by_cases c2 : isText t = false
    · rw [if_pos c2, if_pos (notText.mpr c2)]
    · rw [if_neg c2, if_neg (fun z => c2 (notText.mp z))]
      show (0, Item.para t) = (0, Item.para (ofB (Vanbkh.bytesOf t)))
      have : Vanbkh.isText t = true := by
        rw [← isText_eq]
        cases e : isText t with
        | true => rfl
        | false => exact absurd e c2
      rw [(text_back' this).1]
  · intro h
    unfold Vanbkh.firstError at h
    split at h
    · cases h
    · rename_i c2
      have : Vanbkh.isText t = true := by
        cases e : Vanbkh.isText t with
        | true => rfl
        | false => rw [e] at c2; exact absurd rfl c2
      exact (text_back' this).2
theorem perf_check {s : State} (hs : Inv s) (k : Int) (t : B) : performed (st s) 4 [k] t = res (Vanbkh.step s (.addCheck k t)) ∧ Inv (Vanbkh.step s (.addCheck k t)).1 := by
  refine added_of (c := 4) (nums := [k]) (given := t) (es := [(!Vanbkh.isBetween k 0 1, -10), (!Vanbkh.isText t, -3)]) (x := .check (k == 1) (Vanbkh.bytesOf t)) hs (neg_cons (by decide) (neg_cons (by decide) neg_nil)) ?_ ?_
  · show newCheck k t = _
    unfold newCheck Vanbkh.firstError
    by_cases c1 : ¬ k = 0 ∧ ¬ k = 1
    · rw [if_pos c1, if_pos (betw_false.mpr (by omega))]
    · rw [if_neg c1, if_neg (show ¬ (!Vanbkh.isBetween k 0 1) = true from fun z => c1 (by have := betw_false.mp z; omega))]
      unfold Vanbkh.firstError
      by_cases c2 : isText t = false
      · rw [if_pos c2, if_pos (notText.mpr c2)]
      · rw [if_neg c2, if_neg (fun z => c2 (notText.mp z))]
        show (0, Item.check k t) = (0, Item.check (if (k == 1) = true then 1 else 0) (ofB (Vanbkh.bytesOf t)))
        have : Vanbkh.isText t = true := by
          rw [← isText_eq]
          cases e : isText t with
          | true => rfl
          | false => exact absurd e c2
        rw [(text_back' this).1]
        by_cases q : k = 1
        · rw [if_pos (by simpa using q), q]
        · rw [if_neg (by simpa using q), show k = 0 by omega]
  · intro h
    unfold Vanbkh.firstError at h
    split at h
    · cases h
    · unfold Vanbkh.firstError at h
      split at h
      · cases h
      · rename_i c2
        have : Vanbkh.isText t = true := by
          cases e : Vanbkh.isText t with
          | true => rfl
          | false => rw [e] at c2; exact absurd rfl c2
        exact (text_back' this).2
end R
end
section
set_option Elab.async false
set_option linter.all false
/-! The desk's operations, further. -/
namespace R
open Vanbkh (Bytes State)
theorem take_any (cs : List Vanbkh.Cell) (n : Nat) : ((cs.map cellR).take n).any isNumber = (cs.take n).any Vanbkh.isNumber := by
  rw [← List.map_take, any_isNumber]
theorem perf_table {s : State} (hs : Inv s) (k : Int) {l : B} (hl : lim l) : performed (st s) 2 [k] l = res (Vanbkh.step s (.addTable k l)) ∧ Inv (Vanbkh.step s (.addTable k l)).1 := by
  have key : newTable k l = (match Vanbkh.firstError [(!Vanbkh.isBetween k 1 8, -4), ((Vanbkh.decodeCells l).isNone, -5), (((Vanbkh.decodeCells l).getD []).length % k.toNat != 0 || ((Vanbkh.decodeCells l).getD []).isEmpty || decide (25 * k.toNat < ((Vanbkh.decodeCells l).getD []).length), -6), ((((Vanbkh.decodeCells l).getD []).take k.toNat).any Vanbkh.isNumber, -5)] with
      | some n => refused n
      | none => (0, toR (.table (tableOf k.toNat ((Vanbkh.decodeCells l).getD []))))) ∧
      (Vanbkh.firstError [(!Vanbkh.isBetween k 1 8, -4), ((Vanbkh.decodeCells l).isNone, -5), (((Vanbkh.decodeCells l).getD []).length % k.toNat != 0 || ((Vanbkh.decodeCells l).getD []).isEmpty || decide (25 * k.toNat < ((Vanbkh.decodeCells l).getD []).length), -6), ((((Vanbkh.decodeCells l).getD []).take k.toNat).any Vanbkh.isNumber, -5)] = none → goodI (.table (tableOf k.toNat ((Vanbkh.decodeCells l).getD [])))) := by
    unfold newTable
    by_cases c1 : k < 1 ∨ 8 < k
    · rw [if_pos c1, show (!Vanbkh.isBetween k 1 8) = true from betw_false.mpr c1]
      exact ⟨rfl, fun h => by cases h⟩
    rw [if_neg c1]
    have e1 : (!Vanbkh.isBetween k 1 8) = false := by
      cases e : (!Vanbkh.isBetween k 1 8) with
      | false => rfl
      | true => exact absurd (betw_false.mp e) c1
    rw [e1]
    rcases decoded_of hl with ⟨d1, d2⟩ | ⟨cs, d1, d2, hv⟩
    · rw [d1, d2]
      exact ⟨rfl, fun h => by cases h⟩
    rw [d1, d2]
    obtain ⟨n, rfl⟩ : ∃ n : Nat, k = n := ⟨k.toNat, by omega⟩
    dsimp only [Option.getD_some, Option.isNone_some]
    rw [if_neg (by decide), List.length_map, Int.toNat_natCast, take_any]
    have hsh : (cs.length = 0 ∨ ¬ ((cs.length : Int) % (n : Int) = 0) ∨ 25 * (n : Int) < (cs.length : Int)) ↔ (cs.length % n != 0 || cs.isEmpty || decide (25 * n < cs.length)) = true := by
      rw [Bool.or_eq_true, Bool.or_eq_true, decide_eq_true_eq, bne_iff_ne, List.isEmpty_iff_length_eq_zero]
      constructor
      · rintro (h | h | h)
        · exact .inl (.inr h)
        · exact .inl (.inl fun e => h (by rw [← Int.natCast_emod, e]; rfl))
        · exact .inr (by omega)
      · rintro ((h | h) | h)
        · exact .inr (.inl fun e => h (by rw [← Int.natCast_emod] at e; omega))
        · exact .inl h
        · exact .inr (.inr (by omega))
    by_cases c3 : cs.length = 0 ∨ ¬ ((cs.length : Int) % (n : Int) = 0) ∨ 25 * (n : Int) < (cs.length : Int)
    · rw [if_pos c3, hsh.mp c3]
      exact ⟨rfl, fun h => by cases h⟩
    rw [if_neg c3]
    have e3 : (cs.length % n != 0 || cs.isEmpty || decide (25 * n < cs.length)) = false := by
      cases e : (cs.length % n != 0 || cs.isEmpty || decide (25 * n < cs.length)) with
      | false => rfl
      | true => exact absurd (hsh.mpr e) c3
    rw [e3]
    cases ha : (cs.take n).any Vanbkh.isNumber with
    | true =>
      rw [if_pos rfl]
      exact ⟨rfl, fun h => by cases h⟩
    | false =>
      rw [if_neg (by decide)]
      have hmod : cs.length % n = 0 := by
        have : ¬ ¬ ((cs.length : Int) % (n : Int) = 0) := fun h => c3 (.inr (.inl h))
        rw [← Int.natCast_emod] at this
        omega
      obtain ⟨m, hm⟩ : ∃ m, cs.length = (m + 1) * n := by
        have h5 := Nat.div_add_mod cs.length n
        rw [hmod, Nat.add_zero] at h5
        have h6 : 0 < cs.length / n := by
          rcases Nat.eq_zero_or_pos (cs.length / n) with h | h
          · rw [h, Nat.mul_zero] at h5
            exact absurd (.inl h5.symm) c3
          · exact h
        refine ⟨cs.length / n - 1, ?_⟩
        rw [show cs.length / n - 1 + 1 = cs.length / n by omega, Nat.mul_comm]
        exact h5.symm
      have hm24 : m ≤ 24 := by
        have : ¬ 25 * (n : Int) < (cs.length : Int) := fun h => c3 (.inr (.inr h))
        have h7 : (m + 1) * n ≤ 25 * n := by omega
        have := Nat.le_of_mul_le_mul_right h7 (by omega)
        omega
      obtain ⟨a, b, c, d, e⟩ := tableOf_spec (n := n) (m := m) (by omega) cs hm ha
      have ok := okT_of (n := n) (m := m) (by omega) (by omega) hm24 cs hm ha hv
      refine ⟨?_, fun _ => ⟨ok.good, (okT_iff _).mpr ok⟩⟩
      show (0, Item.tab (n : Int) (cs.map cellR)) = (0, Item.tab ((tableOf n cs).headers.length : Int) (tabR (tableOf n cs)))
      rw [b, tabR_cells, d]
  exact added_of (c := 2) (nums := [k]) (given := l) (x := .table (tableOf k.toNat ((Vanbkh.decodeCells l).getD []))) hs (neg_cons (by decide) (neg_cons (by decide) (neg_cons (by decide) (neg_cons (by decide) neg_nil)))) key.1 key.2
theorem flat_points : ∀ (m : Nat) (l : B), l.length = 2 * m → flat2 (Vanbkh.pointsOf l) = l
  | 0, l, h => by
    have : l = [] := List.length_eq_zero_iff.mp (by omega)
    subst this
    rfl
  | m + 1, [], h => by rw [List.length_nil] at h; omega
  | m + 1, [x], h => by rw [List.length_singleton] at h; omega
  | m + 1, x :: y :: r, h => by
    show [x, y] ++ flat2 (Vanbkh.pointsOf r) = _
    rw [flat_points m r (by rw [List.length_cons, List.length_cons] at h; omega)]
    rfl
theorem lim_any (l : B) : l.any (fun n => decide (n ≤ -big) || decide (big ≤ n)) = l.any fun z => !Vanbkh.isBetween z (1 - Vanbkh.limit) (Vanbkh.limit - 1) := by
  congr 1
  funext n
  have e : Vanbkh.limit = 1000000000000000000 := by decide
  rw [e]
  cases q : (!Vanbkh.isBetween n (1 - 1000000000000000000) (1000000000000000000 - 1)) with
  | true =>
    have := betw_false.mp q
    rw [Bool.or_eq_true, decide_eq_true_eq, decide_eq_true_eq]
    unfold big
    omega
  | false =>
    have : ¬ _ := fun h => by
      have := (betw_false (n := n) (lo := 1 - 1000000000000000000) (hi := 1000000000000000000 - 1)).mpr h
      rw [q] at this
      cases this
    rw [Bool.or_eq_false_iff, decide_eq_false_iff_not, decide_eq_false_iff_not]
    unfold big
    omega
theorem perf_plot {s : State} (hs : Inv s) (k : Int) (l : B) : performed (st s) 3 [k] l = res (Vanbkh.step s (.addPlot k l)) ∧ Inv (Vanbkh.step s (.addPlot k l)).1 := by
  have key : newPlot k l = (match Vanbkh.firstError [(!Vanbkh.isBetween k 3 40, -7), (l.length % 2 != 0 || decide (2 * 60 < l.length), -8), (l.any fun z => !Vanbkh.isBetween z (1 - Vanbkh.limit) (Vanbkh.limit - 1), -9)] with
      | some n => refused n
      | none => (0, toR (.plot k.toNat (Vanbkh.pointsOf l)))) ∧
      (Vanbkh.firstError [(!Vanbkh.isBetween k 3 40, -7), (l.length % 2 != 0 || decide (2 * 60 < l.length), -8), (l.any fun z => !Vanbkh.isBetween z (1 - Vanbkh.limit) (Vanbkh.limit - 1), -9)] = none → goodI (.plot k.toNat (Vanbkh.pointsOf l))) := by
    unfold newPlot
    by_cases c1 : k < 3 ∨ 40 < k
    · rw [if_pos c1, show (!Vanbkh.isBetween k 3 40) = true from betw_false.mpr c1]
      exact ⟨rfl, fun h => by cases h⟩
    rw [if_neg c1]
    have e1 : (!Vanbkh.isBetween k 3 40) = false := by
      cases e : (!Vanbkh.isBetween k 3 40) with
      | false => rfl
      | true => exact absurd (betw_false.mp e) c1
    rw [e1]
    have hsh : (¬ ((l.length : Int) % 2 = 0) ∨ 120 < (l.length : Int)) ↔ (l.length % 2 != 0 || decide (2 * 60 < l.length)) = true := by
      rw [Bool.or_eq_true, decide_eq_true_eq, bne_iff_ne]
      omega
    by_cases c2 : ¬ ((l.length : Int) % 2 = 0) ∨ 120 < (l.length : Int)
    · rw [if_pos c2, hsh.mp c2]
      exact ⟨rfl, fun h => by cases h⟩
    rw [if_neg c2]
    have e2 : (l.length % 2 != 0 || decide (2 * 60 < l.length)) = false := by
      cases e : (l.length % 2 != 0 || decide (2 * 60 < l.length)) with
      | false => rfl
      | true => exact absurd (hsh.mpr e) c2
    rw [e2, ← lim_any]
    cases c3 : l.any (fun n => decide (n ≤ -big) || decide (big ≤ n)) with
    | true =>
      rw [if_pos rfl]
      exact ⟨rfl, fun h => by cases h⟩
    | false =>
      rw [if_neg (by decide)]
      have hfl := flat_points (l.length / 2) l (by omega)
      refine ⟨?_, fun _ => ⟨by omega, by omega, ?_, fun x hx => ?_⟩⟩
      · show (0, Item.plot k l) = (0, Item.plot (k.toNat : Int) (flat2 (Vanbkh.pointsOf l)))
        rw [hfl, show (k.toNat : Int) = k by omega]
      · have := congrArg List.length hfl
        rw [flat2_length] at this
        omega
      · rw [hfl] at hx
        have := List.any_eq_false.mp c3 x hx
        unfold big at this
        simp at this
        omega
  exact added_of (c := 3) (nums := [k]) (given := l) (x := .plot k.toNat (Vanbkh.pointsOf l)) hs (neg_cons (by decide) (neg_cons (by decide) (neg_cons (by decide) neg_nil))) key.1 key.2
/-! ### bars -/
theorem bars_of : ∀ (m : Nat) (cs : List Vanbkh.Cell), cs.length = 2 * m →
    ((stride 0 2 (cs.map cellR)).any isNumber = true ∨ (stride 1 2 (cs.map cellR)).all isNumber = false ↔ Vanbkh.barsOf cs = none) ∧
    ∀ l, Vanbkh.barsOf cs = some l → cs.map cellR = flatBars l ∧ (∀ x ∈ l, Vanbkh.Cell.text x.1 ∈ cs) ∧ l.length = m
  | 0, cs, h => by
    have : cs = [] := List.length_eq_zero_iff.mp (by omega)
    subst this
    refine ⟨⟨fun h => ?_, fun h => by cases h⟩, fun l hl => ?_⟩
    · rw [List.map_nil, stride_nil 0 2 (by decide), stride_nil 1 2 (by decide)] at h
      rcases h with h | h
      · cases h
      · cases h
    · obtain rfl : [] = l := Option.some.inj hl
      exact ⟨rfl, fun x hx => absurd hx List.not_mem_nil, rfl⟩
  | m + 1, [], h => by rw [List.length_nil] at h; omega
  | m + 1, [x], h => by rw [List.length_singleton] at h; omega
  | m + 1, a :: b :: r, h => by
    obtain ⟨p, q⟩ := bars_of m r (by rw [List.length_cons, List.length_cons] at h; omega)
    have s0 : stride 0 2 ((a :: b :: r).map cellR) = cellR a :: stride 0 2 (r.map cellR) := stride_row 0 2 (by decide) [cellR a, cellR b] (r.map cellR) rfl
    have s1 : stride 1 2 ((a :: b :: r).map cellR) = cellR b :: stride 1 2 (r.map cellR) := stride_row 1 2 (by decide) [cellR a, cellR b] (r.map cellR) rfl
    rw [s0, s1, List.any_cons, List.all_cons, isNumber_of, isNumber_of]
    cases a with
    | number z =>
      refine ⟨⟨fun _ => rfl, fun _ => .inl rfl⟩, fun l hl => by cases hl⟩
    | text t =>
      cases b with
      | text u => exact ⟨⟨fun _ => rfl, fun _ => .inr rfl⟩, fun l hl => by cases hl⟩
      | number z =>
        have e : Vanbkh.barsOf (.text t :: .number z :: r) = (Vanbkh.barsOf r).map fun l => (t, z) :: l := rfl
        rw [e]
        refine ⟨?_, fun l hl => ?_⟩
        · show ((false || _) = true ∨ (true && _) = false) ↔ _
          rw [Bool.false_or, Bool.true_and, p, Option.map_eq_none_iff]
        · obtain ⟨l', hl', rfl⟩ := Option.map_eq_some_iff.mp hl
          obtain ⟨u, v, w⟩ := q l' hl'
          refine ⟨?_, fun x hx => ?_, ?_⟩
          · rw [List.map_cons, List.map_cons, u]
            rfl
          · rcases List.mem_cons.mp hx with rfl | hx
            · exact List.mem_cons_self ..
            · exact List.mem_cons_of_mem _ (List.mem_cons_of_mem _ (v x hx))
          · rw [List.length_cons, w]
theorem bars_lim (l : List (Bytes × Int)) : (stride 1 2 (flatBars l)).any (fun c => decide (c.b < 0) || decide (big ≤ c.b)) = l.any fun x => !Vanbkh.isBetween x.2 0 (Vanbkh.limit - 1) := by
  rw [stride_nums, List.any_map]
  congr 1
  funext x
  have e : Vanbkh.limit = 1000000000000000000 := by decide
  rw [e]
  show (decide (x.2 < 0) || decide (big ≤ x.2)) = _
  cases q : (!Vanbkh.isBetween x.2 0 (1000000000000000000 - 1)) with
  | true =>
    have := betw_false.mp q
    rw [Bool.or_eq_true, decide_eq_true_eq, decide_eq_true_eq]
    unfold big
    omega
  | false =>
    have : ¬ _ := fun h => by
      have := (betw_false (n := x.2) (lo := 0) (hi := 1000000000000000000 - 1)).mpr h
      rw [q] at this
      cases this
    rw [Bool.or_eq_false_iff, decide_eq_false_iff_not, decide_eq_false_iff_not]
    unfold big
    omega
theorem perf_bars {s : State} (hs : Inv s) {l : B} (hl : lim l) : performed (st s) 5 [] l = res (Vanbkh.step s (.addBars l)) ∧ Inv (Vanbkh.step s (.addBars l)).1 := by
  have key : newBars l = (match Vanbkh.firstError [((Vanbkh.decodeCells l).isNone, -5), (((Vanbkh.decodeCells l).getD []).length % 2 != 0 || decide (2 * 20 < ((Vanbkh.decodeCells l).getD []).length), -6), ((Vanbkh.barsOf ((Vanbkh.decodeCells l).getD [])).isNone, -5), (((Vanbkh.barsOf ((Vanbkh.decodeCells l).getD [])).getD []).any fun x => !Vanbkh.isBetween x.2 0 (Vanbkh.limit - 1), -9)] with
      | some n => refused n
      | none => (0, toR (.bars ((Vanbkh.barsOf ((Vanbkh.decodeCells l).getD [])).getD [])))) ∧
      (Vanbkh.firstError [((Vanbkh.decodeCells l).isNone, -5), (((Vanbkh.decodeCells l).getD []).length % 2 != 0 || decide (2 * 20 < ((Vanbkh.decodeCells l).getD []).length), -6), ((Vanbkh.barsOf ((Vanbkh.decodeCells l).getD [])).isNone, -5), (((Vanbkh.barsOf ((Vanbkh.decodeCells l).getD [])).getD []).any fun x => !Vanbkh.isBetween x.2 0 (Vanbkh.limit - 1), -9)] = none → goodI (.bars ((Vanbkh.barsOf ((Vanbkh.decodeCells l).getD [])).getD []))) := by
    unfold newBars
    rcases decoded_of hl with ⟨d1, d2⟩ | ⟨cs, d1, d2, hv⟩
    · rw [d1, d2]
      exact ⟨rfl, fun h => by cases h⟩
    rw [d1, d2]
    dsimp only [Option.getD_some, Option.isNone_some]
    rw [if_neg (by decide), List.length_map]
    have hsh : (¬ ((cs.length : Int) % 2 = 0) ∨ 40 < (cs.length : Int)) ↔ (cs.length % 2 != 0 || decide (2 * 20 < cs.length)) = true := by
      rw [Bool.or_eq_true, decide_eq_true_eq, bne_iff_ne]
      omega
    by_cases c2 : ¬ ((cs.length : Int) % 2 = 0) ∨ 40 < (cs.length : Int)
    · rw [if_pos c2, hsh.mp c2]
      exact ⟨rfl, fun h => by cases h⟩
    rw [if_neg c2]
    have e2 : (cs.length % 2 != 0 || decide (2 * 20 < cs.length)) = false := by
      cases e : (cs.length % 2 != 0 || decide (2 * 20 < cs.length)) with
      | false => rfl
      | true => exact absurd (hsh.mpr e) c2
    rw [e2]
    obtain ⟨p, q⟩ := bars_of (cs.length / 2) cs (by omega)
    cases hb : Vanbkh.barsOf cs with
    | none =>
      rw [if_pos (p.mpr hb)]
      exact ⟨rfl, fun h => by cases h⟩
    | some bl =>
      rw [if_neg (fun h => by rw [p.mp h] at hb; cases hb)]
      obtain ⟨u, v, w⟩ := q bl hb
      dsimp only [Option.getD_some, Option.isNone_some]
      rw [u, ← bars_lim]
      cases c3 : (stride 1 2 (flatBars bl)).any (fun c => decide (c.b < 0) || decide (big ≤ c.b)) with
      | true =>
        rw [if_pos rfl]
        exact ⟨rfl, fun h => by cases h⟩
      | false =>
        rw [if_neg (by decide)]
        refine ⟨rfl, fun _ => ⟨by omega, fun x hx => ⟨?_, ?_⟩⟩⟩
        · have hvx : Vanbkh.isValidText x.1 = true := hv _ (v x hx)
          unfold Vanbkh.isValidText at hvx
          rw [Bool.and_eq_true] at hvx
          exact of_decide_eq_true hvx.1
        · rw [stride_nums, List.any_map] at c3
          have := List.any_eq_false.mp c3 x hx
          have this : ¬ ((decide (x.2 < 0) || decide (big ≤ x.2)) = true) := this
          rw [Bool.or_eq_true, decide_eq_true_eq, decide_eq_true_eq] at this
          unfold big at this
          omega
  exact added_of (c := 5) (nums := []) (given := l) (x := .bars ((Vanbkh.barsOf ((Vanbkh.decodeCells l).getD [])).getD [])) hs (neg_cons (by decide) (neg_cons (by decide) (neg_cons (by decide) (neg_cons (by decide) neg_nil)))) key.1 key.2
theorem perf_read {s : State} (hs : Inv s) (l : B) : performed (st s) 14 [] l = res (Vanbkh.step s (.readTable l)) ∧ Inv (Vanbkh.step s (.readTable l)).1 := by
  have hn : newItem 14 [] l = if (tableRead l).1 = 0 then refused (-16) else (0, .tab (tableRead l).1 (tableRead l).2) := rfl
  have e : Vanbkh.step s (.readTable l) = Vanbkh.appendItem s ((Vanbkh.isFull s, -1) :: [((Vanbkh.readBytes l).isNone, -16)]) (.table ((Vanbkh.readBytes l).getD ⟨[], []⟩)) := by
    show (if Vanbkh.isFull s = true then (s, Vanbkh.Answer.error (-1)) else match Vanbkh.readBytes l with
      | none => (s, .error (-16))
      | some x => ({ items := s.items ++ [.table x] }, .numbers [Vanbkh.ofNat s.items.length])) = _
    unfold Vanbkh.appendItem
    cases Vanbkh.isFull s with
    | true => rfl
    | false => cases Vanbkh.readBytes l <;> rfl
  rw [e]
  refine added_of (c := 14) (nums := []) (given := l) hs (neg_cons (by decide) neg_nil) ?_ ?_
  · rw [hn]
    rcases read_agree l with ⟨a, b⟩ | ⟨t, h1, h2, h3⟩
    · rw [if_pos a, b]
      rfl
    · have := h1.lo
      rw [h2, if_neg (by show ¬ ((t.headers.length : Int)) = 0; omega), h3]
      rfl
  · intro h
    rcases read_agree l with ⟨a, b⟩ | ⟨t, h1, h2, h3⟩
    · rw [b] at h
      cases h
    · rw [h3]
      exact ⟨h1.good, (okT_iff t).mpr h1⟩
end R
end
section
set_option Elab.async false
set_option linter.all false
/-! The desk's operations: changing, asking. -/
namespace R
open Vanbkh (Bytes State)
theorem item_none {s : State} {i : Int} : isMissing (st s) i = true ↔ Vanbkh.itemAt s i = none := by
  unfold isMissing Vanbkh.itemAt
  rw [Bool.or_eq_true, decide_eq_true_eq, decide_eq_true_eq, st_len]
  split
  · rename_i h
    exact ⟨fun _ => rfl, fun _ => .inl h⟩
  · rename_i h
    rw [List.getElem?_eq_none_iff]
    omega
theorem item_some {s : State} {i : Int} {x : Vanbkh.Item} (h : Vanbkh.itemAt s i = some x) : isMissing (st s) i = false ∧ itemOf (st s) i = toR x ∧ 0 ≤ i ∧ s.items[i.toNat]? = some x := by
  have hm : isMissing (st s) i = false := by
    cases e : isMissing (st s) i with
    | false => rfl
    | true => rw [item_none.mp e] at h; cases h
  unfold Vanbkh.itemAt at h
  split at h
  · cases h
  · rename_i h0
    refine ⟨hm, ?_, by omega, h⟩
    unfold itemOf st
    rw [List.getD_eq_getElem?_getD, List.getElem?_map, h]
    rfl
theorem perf_remove {s : State} (hs : Inv s) (i : Int) : performed (st s) 6 [i] [] = res (Vanbkh.step s (.remove i)) ∧ Inv (Vanbkh.step s (.remove i)).1 := by
  have e0 : performed (st s) 6 [i] [] = ((removed (st s) i).2, [(removed (st s) i).1]) := rfl
  have e1 : Vanbkh.step s (.remove i) = match Vanbkh.itemAt s i with
    | none => (s, .error (-11))
    | some _ => ({ items := Vanbkh.without s.items i.toNat }, .numbers [0]) := rfl
  rw [e0, e1]
  unfold removed
  cases h : Vanbkh.itemAt s i with
  | none =>
    rw [if_pos (item_none.mpr h)]
    exact ⟨rfl, hs⟩
  | some x =>
    obtain ⟨a, b, c, d⟩ := item_some h
    rw [if_neg (by rw [a]; decide)]
    refine ⟨?_, ?_, fun y hy => ?_⟩
    · unfold res st Vanbkh.without
      rw [List.map_append, List.map_take, List.map_drop, show (i + 1).toNat = i.toNat + 1 by omega]
      rfl
    · show (s.items.take i.toNat ++ s.items.drop (i.toNat + 1)).length ≤ 12
      have := hs.few
      rw [List.length_append, List.length_take, List.length_drop]
      omega
    · rcases List.mem_append.mp hy with hy | hy
      · exact hs.good y (List.mem_of_mem_take hy)
      · exact hs.good y (List.mem_of_mem_drop hy)
theorem perf_move {s : State} (hs : Inv s) (i j : Int) : performed (st s) 7 [i, j] [] = res (Vanbkh.step s (.move i j)) ∧ Inv (Vanbkh.step s (.move i j)).1 := by
  have e0 : performed (st s) 7 [i, j] [] = ((moved (st s) i j).2, [(moved (st s) i j).1]) := rfl
  have e1 : Vanbkh.step s (.move i j) = if ((Vanbkh.itemAt s i).isNone || (Vanbkh.itemAt s j).isNone) = true then (s, .error (-11)) else ({ items := Vanbkh.moved s.items i.toNat j.toNat }, .numbers [0]) := rfl
  rw [e0, e1]
  unfold moved
  cases h : Vanbkh.itemAt s i with
  | none =>
    rw [if_pos (.inl (item_none.mpr h))]
    exact ⟨rfl, hs⟩
  | some x =>
    obtain ⟨a, b, c, d⟩ := item_some h
    cases h' : Vanbkh.itemAt s j with
    | none =>
      rw [if_pos (.inr (item_none.mpr h'))]
      exact ⟨rfl, hs⟩
    | some y =>
      obtain ⟨a', b', c', d'⟩ := item_some h'
      rw [if_neg (by
        rw [a, a']
        rintro (h | h)
        · cases h
        · cases h), if_neg (show ¬ ((some x).isNone || (some y).isNone) = true from Bool.false_ne_true), b]
      have em : Vanbkh.moved s.items i.toNat j.toNat = (Vanbkh.without s.items i.toNat).take j.toNat ++ x :: (Vanbkh.without s.items i.toNat).drop j.toNat := by
        unfold Vanbkh.moved
        rw [d]
      refine ⟨?_, ?_, fun z hz => ?_⟩
      · unfold res
        show (_, _) = (st { items := Vanbkh.moved s.items i.toNat j.toNat }, _)
        rw [em]
        unfold st Vanbkh.without
        rw [show (i + 1).toNat = i.toNat + 1 by omega]
        simp only [List.map_append, List.map_take, List.map_drop, List.map_cons, List.append_assoc, List.singleton_append]
        rfl
      · show (Vanbkh.moved s.items i.toNat j.toNat).length ≤ 12
        have hi : i.toNat < s.items.length := (List.getElem?_eq_some_iff.mp d).1
        have := hs.few
        rw [em]
        unfold Vanbkh.without
        rw [List.length_append, List.length_cons, List.length_take, List.length_drop, List.length_append, List.length_take, List.length_drop]
        omega
      · have hz : z ∈ Vanbkh.moved s.items i.toNat j.toNat := hz
        rw [em] at hz
        have wo : ∀ u ∈ Vanbkh.without s.items i.toNat, u ∈ s.items := fun u hu => by
          rcases List.mem_append.mp hu with hu | hu
          · exact List.mem_of_mem_take hu
          · exact List.mem_of_mem_drop hu
        rcases List.mem_append.mp hz with hz | hz
        · exact hs.good z (wo z (List.mem_of_mem_take hz))
        · rcases List.mem_cons.mp hz with rfl | hz
          · exact hs.good z (List.mem_of_getElem? d)
          · exact hs.good z (wo z (List.mem_of_mem_drop hz))
/-! ### a table replaced -/
theorem withTable_of (s : State) {i : Int} (hi : 0 ≤ i) (hl : i.toNat < s.items.length) (t : Vanbkh.Table) : withTable (st s) i (t.headers.length : Int) (tabR t) = st { items := s.items.set i.toNat (.table t) } := by
  unfold withTable st
  rw [List.set_eq_take_append_cons_drop, if_pos hl, List.map_append, List.map_cons, List.map_take, List.map_drop, show (i + 1).toNat = i.toNat + 1 by omega, List.append_assoc]
  rfl
theorem set_inv {s : State} (hs : Inv s) (i : Nat) {x : Vanbkh.Item} (hx : goodI x) : Inv { items := s.items.set i x } := ⟨by show (s.items.set i x).length ≤ 12; rw [List.length_set]; exact hs.few, fun y hy => by
  rcases List.mem_or_eq_of_mem_set hy with h | h
  · exact hs.good y h
  · rw [h]; exact hx⟩
theorem not_table {x : Vanbkh.Item} (h : ∀ t, x ≠ .table t) : ¬ kind (toR x) = 2 := by
  cases x with
  | table t => exact absurd rfl (h t)
  | heading k t => show ¬ (0 : Int) = 2; decide
  | paragraph t => show ¬ (1 : Int) = 2; decide
  | plot a b => show ¬ (3 : Int) = 2; decide
  | check p t => show ¬ (4 : Int) = 2; decide
  | bars l => show ¬ (5 : Int) = 2; decide
theorem table_cases {s : State} (i : Int) : (Vanbkh.itemAt s i = none ∧ tableError (st s) i = -11) ∨ (∃ x, Vanbkh.itemAt s i = some x ∧ (∀ t, x ≠ .table t) ∧ tableError (st s) i = -12) ∨
    ∃ t, Vanbkh.itemAt s i = some (.table t) ∧ tableError (st s) i = 0 ∧ itemOf (st s) i = .tab (t.headers.length : Int) (tabR t) ∧ 0 ≤ i ∧ s.items[i.toNat]? = some (.table t) := by
  unfold tableError
  cases h : Vanbkh.itemAt s i with
  | none => exact .inl ⟨rfl, if_pos (item_none.mpr h)⟩
  | some x =>
    obtain ⟨a, b, c, d⟩ := item_some h
    rw [if_neg (by rw [a]; decide), b]
    by_cases ht : ∃ t, x = .table t
    · obtain ⟨t, rfl⟩ := ht
      exact .inr (.inr ⟨t, rfl, if_neg (by show ¬ ¬ (2 : Int) = 2; decide), rfl, c, d⟩)
    · have ht : ∀ t, x ≠ .table t := fun t e => ht ⟨t, e⟩
      exact .inr (.inl ⟨x, rfl, ht, if_pos (not_table ht)⟩)
theorem onTable_other {s : State} {i : Int} {x : Vanbkh.Item} (h : Vanbkh.itemAt s i = some x) (hx : ∀ t, x ≠ .table t) (es : Vanbkh.Table → List (Bool × Int)) (f : Vanbkh.Table → Vanbkh.Table) : Vanbkh.onTable s i es f = (s, .error (-12)) := by
  unfold Vanbkh.onTable
  rw [h]
  cases x with
  | table t => exact absurd rfl (hx t)
  | heading k t => rfl
  | paragraph t => rfl
  | plot a b => rfl
  | check p t => rfl
  | bars l => rfl
theorem onTable_table {s : State} {i : Int} {t : Vanbkh.Table} (h : Vanbkh.itemAt s i = some (.table t)) (es : Vanbkh.Table → List (Bool × Int)) (f : Vanbkh.Table → Vanbkh.Table) : Vanbkh.onTable s i es f = match Vanbkh.firstError (es t) with
    | some n => (s, .error n)
    | none => ({ items := s.items.set i.toNat (.table (f t)) }, .numbers [0]) := by
  unfold Vanbkh.onTable
  rw [h]
  dsimp only
  cases Vanbkh.firstError (es t)
  · rfl
  · rfl
theorem sortRows_mem {desc : Bool} {k : Nat} : ∀ {l : List (List Vanbkh.Cell)} {r : List Vanbkh.Cell}, r ∈ Vanbkh.sortRows desc k l → r ∈ l := by
  have ins : ∀ (p : Vanbkh.Cell → Vanbkh.Cell → Bool) (x : List Vanbkh.Cell) (l : List (List Vanbkh.Cell)) (r : List Vanbkh.Cell), r ∈ Vanbkh.insertRow p k x l → r = x ∨ r ∈ l := by
    intro p x l
    induction l with
    | nil =>
      intro r h
      exact .inl (by simpa [Vanbkh.insertRow] using h)
    | cons q l ih =>
      intro r h
      unfold Vanbkh.insertRow at h
      split at h
      · split at h
        · rcases List.mem_cons.mp h with h | h
          · exact .inr (by rw [h]; exact List.mem_cons_self ..)
          · rcases ih r h with h | h
            · exact .inl h
            · exact .inr (List.mem_cons_of_mem _ h)
        · exact List.mem_cons.mp h
      · exact List.mem_cons.mp h
  intro l
  induction l with
  | nil => intro r h; exact h
  | cons x l ih =>
    intro r h
    rcases ins _ x _ r h with h | h
    · rw [h]; exact List.mem_cons_self ..
    · exact List.mem_cons_of_mem _ (ih h)
theorem sortRows_len {desc : Bool} {k : Nat} : ∀ l : List (List Vanbkh.Cell), (Vanbkh.sortRows desc k l).length = l.length := by
  have ins : ∀ (p : Vanbkh.Cell → Vanbkh.Cell → Bool) (x : List Vanbkh.Cell) (l : List (List Vanbkh.Cell)), (Vanbkh.insertRow p k x l).length = l.length + 1 := by
    intro p x l
    induction l with
    | nil => rfl
    | cons q l ih =>
      unfold Vanbkh.insertRow
      split
      · split
        · rw [List.length_cons, ih]; rfl
        · rfl
      · rfl
  intro l
  induction l with
  | nil => rfl
  | cons x l ih =>
    show (Vanbkh.insertRow _ k x (Vanbkh.sortRows desc k l)).length = _
    rw [ins, ih]
    rfl
theorem sort_ok {t : Vanbkh.Table} (h : okT t) (desc : Bool) (k : Nat) : okT { t with rows := Vanbkh.sortRows desc k t.rows } := ⟨h.lo, h.hi, by show (Vanbkh.sortRows desc k t.rows).length ≤ 24; rw [sortRows_len]; exact h.few, h.hd, fun r hr => h.rows r (sortRows_mem hr)⟩
theorem select_ok {t : Vanbkh.Table} (h : okT t) {ks : List Int} (h1 : 1 ≤ ks.length) (h8 : ks.length ≤ 8) (hk : ∀ k ∈ ks, 0 ≤ k ∧ k < (t.headers.length : Int)) : okT (Vanbkh.selectColumns (ks.map Int.toNat) t) ∧ (Vanbkh.selectColumns (ks.map Int.toNat) t).headers.length = ks.length := by
  have hl : (Vanbkh.selectColumns (ks.map Int.toNat) t).headers.length = ks.length := select_len ks hk t.headers rfl
  refine ⟨⟨by omega, by omega, ?_, fun x hx => ?_, fun r hr => ?_⟩, hl⟩
  · show (t.rows.map _).length ≤ 24
    rw [List.length_map]
    exact h.few
  · obtain ⟨k, _, e⟩ := List.mem_filterMap.mp hx
    exact h.hd x (List.mem_of_getElem? e)
  · obtain ⟨q, hq, rfl⟩ := List.mem_map.mp hr
    refine ⟨?_, fun c hc => ?_⟩
    · rw [hl]
      exact select_len ks hk q (h.rows q hq).1
    · obtain ⟨k, _, e⟩ := List.mem_filterMap.mp hc
      exact (h.rows q hq).2 c (List.mem_of_getElem? e)
theorem perf_sort {s : State} (hs : Inv s) (i k d : Int) : performed (st s) 8 [i, k, d] [] = res (Vanbkh.step s (.sort i k d)) ∧ Inv (Vanbkh.step s (.sort i k d)).1 := by
  have e0 : performed (st s) 8 [i, k, d] [] = ((sortedRows (st s) i k d).2, [(sortedRows (st s) i k d).1]) := rfl
  have e1 : Vanbkh.step s (.sort i k d) = Vanbkh.onTable s i (fun t => [(!Vanbkh.isBetween k 0 (Vanbkh.ofNat t.headers.length - 1), -13), (!Vanbkh.isBetween d 0 1, -10)]) fun t => { t with rows := Vanbkh.sortRows (d == 1) k.toNat t.rows } := rfl
  rw [e0, e1]
  unfold sortedRows
  rcases table_cases (s := s) i with ⟨h, te⟩ | ⟨x, h, hx, te⟩ | ⟨t, h, te, hit, hi, hg⟩
  · rw [te, if_pos (by decide)]
    unfold Vanbkh.onTable
    rw [h]
    exact ⟨rfl, hs⟩
  · rw [te, if_pos (by decide), onTable_other h hx]
    exact ⟨rfl, hs⟩
  · have ec : columnsOf (itemOf (st s) i) = (t.headers.length : Int) := by rw [hit]; rfl
    have ecs : cellsOf (itemOf (st s) i) = tabR t := by rw [hit]; rfl
    rw [te, if_neg (show ¬ (0 : Int) < 0 by decide), ec, ecs, onTable_table h]
    have ok := (okT_iff t).mp (hs.good _ (List.mem_of_getElem? hg)).2
    by_cases c1 : k < 0 ∨ (t.headers.length : Int) ≤ k
    · rw [if_pos c1, show (!Vanbkh.isBetween k 0 (Vanbkh.ofNat t.headers.length - 1)) = true from betw_false.mpr (by unfold Vanbkh.ofNat; omega)]
      exact ⟨rfl, hs⟩
    rw [if_neg c1]
    have b1 : (!Vanbkh.isBetween k 0 (Vanbkh.ofNat t.headers.length - 1)) = false := by
      cases e : (!Vanbkh.isBetween k 0 (Vanbkh.ofNat t.headers.length - 1)) with
      | false => rfl
      | true =>
        have := betw_false.mp e
        unfold Vanbkh.ofNat at this
        omega
    rw [b1]
    by_cases c2 : ¬ d = 0 ∧ ¬ d = 1
    · rw [if_pos c2, show (!Vanbkh.isBetween d 0 1) = true from betw_false.mpr (by omega)]
      exact ⟨rfl, hs⟩
    rw [if_neg c2]
    have b2 : (!Vanbkh.isBetween d 0 1) = false := by
      cases e : (!Vanbkh.isBetween d 0 1) with
      | false => rfl
      | true =>
        have := betw_false.mp e
        omega
    rw [b2]
    obtain ⟨n, rfl⟩ : ∃ n : Nat, k = n := ⟨k.toNat, by omega⟩
    rw [sortedCells_of ok.good (by omega) d (d == 1) rfl]
    have hw := withTable_of s hi (List.getElem?_eq_some_iff.mp hg).1 { t with rows := Vanbkh.sortRows (d == 1) n t.rows }
    have hok := sort_ok ok (d == 1) n
    refine ⟨?_, set_inv hs _ ⟨hok.good, (okT_iff _).mpr hok⟩⟩
    show (withTable (st s) i (t.headers.length : Int) _, _) = _
    rw [show withTable (st s) i (t.headers.length : Int) (tabR { t with rows := Vanbkh.sortRows (d == 1) n t.rows }) = _ from hw]
    rfl
theorem perf_select {s : State} (hs : Inv s) (i : Int) (ks : B) : performed (st s) 9 [i] ks = res (Vanbkh.step s (.select i ks)) ∧ Inv (Vanbkh.step s (.select i ks)).1 := by
  have e0 : performed (st s) 9 [i] ks = ((selected (st s) i ks).2, [(selected (st s) i ks).1]) := rfl
  have e1 : Vanbkh.step s (.select i ks) = Vanbkh.onTable s i (fun t => [(ks.isEmpty || decide (8 < ks.length), -4), (ks.any fun k => !Vanbkh.isBetween k 0 (Vanbkh.ofNat t.headers.length - 1), -13)]) (Vanbkh.selectColumns (ks.map Int.toNat)) := rfl
  rw [e0, e1]
  unfold selected
  rcases table_cases (s := s) i with ⟨h, te⟩ | ⟨x, h, hx, te⟩ | ⟨t, h, te, hit, hi, hg⟩
  · rw [te, if_pos (by decide)]
    unfold Vanbkh.onTable
    rw [h]
    exact ⟨rfl, hs⟩
  · rw [te, if_pos (by decide), onTable_other h hx]
    exact ⟨rfl, hs⟩
  · have ec : columnsOf (itemOf (st s) i) = (t.headers.length : Int) := by rw [hit]; rfl
    have ecs : cellsOf (itemOf (st s) i) = tabR t := by rw [hit]; rfl
    rw [te, if_neg (show ¬ (0 : Int) < 0 by decide), ec, ecs, onTable_table h]
    have ok := (okT_iff t).mp (hs.good _ (List.mem_of_getElem? hg)).2
    have hsh : ((ks.length : Int) < 1 ∨ 8 < (ks.length : Int)) ↔ (ks.isEmpty || decide (8 < ks.length)) = true := by
      rw [Bool.or_eq_true, decide_eq_true_eq, List.isEmpty_iff_length_eq_zero]
      omega
    by_cases c1 : (ks.length : Int) < 1 ∨ 8 < (ks.length : Int)
    · rw [if_pos c1, hsh.mp c1]
      exact ⟨rfl, hs⟩
    rw [if_neg c1]
    have b1 : (ks.isEmpty || decide (8 < ks.length)) = false := by
      cases e : (ks.isEmpty || decide (8 < ks.length)) with
      | false => rfl
      | true => exact absurd (hsh.mpr e) c1
    rw [b1]
    have ea : ks.any (fun c => decide (c < 0) || decide ((t.headers.length : Int) ≤ c)) = ks.any fun k => !Vanbkh.isBetween k 0 (Vanbkh.ofNat t.headers.length - 1) := by
      congr 1
      funext c
      cases q : (!Vanbkh.isBetween c 0 (Vanbkh.ofNat t.headers.length - 1)) with
      | true =>
        have := betw_false.mp q
        unfold Vanbkh.ofNat at this
        rw [Bool.or_eq_true, decide_eq_true_eq, decide_eq_true_eq]
        omega
      | false =>
        have : ¬ _ := fun h => by
          have := (betw_false (n := c) (lo := 0) (hi := Vanbkh.ofNat t.headers.length - 1)).mpr h
          rw [q] at this
          cases this
        unfold Vanbkh.ofNat at this
        rw [Bool.or_eq_false_iff, decide_eq_false_iff_not, decide_eq_false_iff_not]
        omega
    rw [← ea]
    cases c3 : ks.any (fun c => decide (c < 0) || decide ((t.headers.length : Int) ≤ c)) with
    | true =>
      rw [if_pos rfl]
      exact ⟨rfl, hs⟩
    | false =>
      rw [if_neg (show ¬ false = true by decide)]
      have hk : ∀ k ∈ ks, 0 ≤ k ∧ k < (t.headers.length : Int) := fun k hk => by
        have := List.any_eq_false.mp c3 k hk
        rw [Bool.or_eq_true, decide_eq_true_eq, decide_eq_true_eq] at this
        omega
      obtain ⟨hok, hl⟩ := select_ok ok (ks := ks) (by omega) (by omega) hk
      have hw := withTable_of s hi (List.getElem?_eq_some_iff.mp hg).1 (Vanbkh.selectColumns (ks.map Int.toNat) t)
      rw [hl] at hw
      rw [chosenCells_of ok.good ks hk]
      refine ⟨?_, set_inv hs _ ⟨hok.good, (okT_iff _).mpr hok⟩⟩
      show (withTable (st s) i (ks.length : Int) _, _) = _
      rw [hw]
      rfl
/-! ### asking -/
theorem noWidth (w : Int) : isNoWidth w = Vanbkh.isInvalidWidth w := by
  unfold isNoWidth Vanbkh.isInvalidWidth
  cases q : (!Vanbkh.isBetween w 20 120) with
  | true =>
    have := betw_false.mp q
    rw [Bool.or_eq_true, decide_eq_true_eq, decide_eq_true_eq]
    exact this
  | false =>
    have : ¬ _ := fun h => by
      have := (betw_false (n := w) (lo := 20) (hi := 120)).mpr h
      rw [q] at this
      cases this
    rw [Bool.or_eq_false_iff, decide_eq_false_iff_not, decide_eq_false_iff_not]
    omega
theorem ask_lines {s : State} (hs : Inv s) (i w : Int) : toldLines (st s) i w = VanbkhNeutral.encode (Vanbkh.query s (.itemLines i w)) := by
  have e : Vanbkh.query s (.itemLines i w) = match Vanbkh.itemAt s i with
    | none => .error (-11)
    | some x => if Vanbkh.isInvalidWidth w = true then .error (-14) else .numbers (Vanbkh.encodeLines (Vanbkh.itemLines w.toNat x)) := rfl
  rw [e]
  unfold toldLines
  cases h : Vanbkh.itemAt s i with
  | none => rw [if_pos (item_none.mpr h)]; rfl
  | some x =>
    obtain ⟨a, b, c, d⟩ := item_some h
    rw [if_neg (by rw [a]; decide), noWidth]
    dsimp only
    cases hw : Vanbkh.isInvalidWidth w with
    | true => rfl
    | false =>
      rw [if_neg (show ¬ false = true by decide), if_neg (show ¬ false = true by decide), b]
      rw [← noWidth] at hw
      obtain ⟨w1, w2⟩ := width_ok hw
      obtain ⟨n, rfl⟩ : ∃ n : Nat, w = n := ⟨w.toNat, by omega⟩
      rw [itemLines_of (hs.good x (List.mem_of_getElem? d)) (by omega), listed_of]
      rfl
theorem ask_document {s : State} (hs : Inv s) (w : Int) : toldDocument (st s) w = VanbkhNeutral.encode (Vanbkh.query s (.documentLines w)) := by
  have e : Vanbkh.query s (.documentLines w) = if Vanbkh.isInvalidWidth w = true then .error (-14) else .numbers (Vanbkh.encodeLines (Vanbkh.documentLines w.toNat s.items)) := rfl
  rw [e]
  unfold toldDocument
  rw [noWidth]
  cases hw : Vanbkh.isInvalidWidth w with
  | true => rfl
  | false =>
    rw [if_neg (show ¬ false = true by decide), if_neg (show ¬ false = true by decide)]
    rw [← noWidth] at hw
    obtain ⟨w1, w2⟩ := width_ok hw
    obtain ⟨n, rfl⟩ : ∃ n : Nat, w = n := ⟨w.toNat, by omega⟩
    unfold st
    rw [document_of (by omega) s.items hs.good, listed_of]
    rfl
theorem ask_pages {s : State} (hs : Inv s) (w h : Int) : toldPages (st s) w h = VanbkhNeutral.encode (Vanbkh.query s (.pages w h)) := by
  have e : Vanbkh.query s (.pages w h) = if Vanbkh.isInvalidWidth w = true then .error (-14) else if (!Vanbkh.isBetween h 5 60) = true then .error (-15) else .numbers (Vanbkh.ofNat (Vanbkh.pages w.toNat h.toNat s.items).length :: (Vanbkh.pages w.toNat h.toNat s.items).flatMap Vanbkh.encodeLines) := rfl
  rw [e]
  unfold toldPages
  rw [noWidth]
  cases hw : Vanbkh.isInvalidWidth w with
  | true => rfl
  | false =>
    rw [if_neg (show ¬ false = true by decide), if_neg (show ¬ false = true by decide)]
    rw [← noWidth] at hw
    obtain ⟨w1, w2⟩ := width_ok hw
    by_cases c : h < 5 ∨ 60 < h
    · rw [if_pos c, if_pos (betw_false.mpr c)]
      rfl
    rw [if_neg c, if_neg (fun z => c (betw_false.mp z))]
    obtain ⟨n, rfl⟩ : ∃ n : Nat, w = n := ⟨w.toNat, by omega⟩
    obtain ⟨m, rfl⟩ : ∃ m : Nat, h = m := ⟨h.toNat, by omega⟩
    unfold st
    rw [pages_of (by omega) (by omega) s.items hs.good]
    show _ = Vanbkh.ofNat _ :: _
    unfold pgs
    rw [List.length_map, List.flatMap_map, Int.toNat_natCast, Int.toNat_natCast]
    congr 1
    exact flatMap_eq fun p _ => listed_of p
theorem ask_widths {s : State} (hs : Inv s) (i w : Int) : toldWidths (st s) i w = VanbkhNeutral.encode (Vanbkh.query s (.columnWidths i w)) := by
  have e : Vanbkh.query s (.columnWidths i w) = match Vanbkh.itemAt s i with
    | none => .error (-11)
    | some x => if Vanbkh.isInvalidWidth w = true then .error (-14) else match x with
      | .table t => .numbers (Vanbkh.ofNat (Vanbkh.columnWidths w.toNat t).length :: (Vanbkh.columnWidths w.toNat t).map Vanbkh.ofNat)
      | _ => .error (-12) := rfl
  rw [e]
  unfold toldWidths
  cases h : Vanbkh.itemAt s i with
  | none => rw [if_pos (item_none.mpr h)]; rfl
  | some x =>
    obtain ⟨a, b, c, d⟩ := item_some h
    rw [if_neg (by rw [a]; decide), noWidth]
    dsimp only
    cases hw : Vanbkh.isInvalidWidth w with
    | true => rfl
    | false =>
      rw [if_neg (show ¬ false = true by decide), if_neg (show ¬ false = true by decide), b]
      rw [← noWidth] at hw
      obtain ⟨w1, w2⟩ := width_ok hw
      obtain ⟨n, rfl⟩ : ∃ n : Nat, w = n := ⟨w.toNat, by omega⟩
      cases x with
      | table t =>
        have g := hs.good _ (List.mem_of_getElem? d)
        rw [if_neg (by show ¬ ¬ (2 : Int) = 2; decide)]
        show ((fittingWidths (t.headers.length : Int) (tabR t) (n : Int)).length : Int) :: fittingWidths (t.headers.length : Int) (tabR t) (n : Int) = _
        rw [fitting_of g.1 (by omega), upI_len]
        rfl
      | heading k t => rfl
      | paragraph t => rfl
      | plot a b => rfl
      | check p t => rfl
      | bars l => rfl
theorem ask_kinds (s : State) : toldKinds (st s) = VanbkhNeutral.encode (Vanbkh.query s .kinds) := by
  show ((st s).length : Int) :: (st s).map kind = Vanbkh.ofNat s.items.length :: s.items.map Vanbkh.kindOf
  rw [st_len]
  unfold st
  rw [List.map_map]
  congr 1
  exact List.map_congr_left fun x _ => kind_of x
theorem ask_cells {s : State} (hs : Inv s) (i : Int) : toldCells (st s) i = VanbkhNeutral.encode (Vanbkh.query s (.cells i)) := by
  have e : Vanbkh.query s (.cells i) = match Vanbkh.itemAt s i with
    | none => .error (-11)
    | some (.table t) => .numbers (Vanbkh.encodeTable t)
    | some _ => .error (-12) := rfl
  rw [e]
  unfold toldCells
  rcases table_cases (s := s) i with ⟨h, te⟩ | ⟨x, h, hx, te⟩ | ⟨t, h, te, hit, hi, hg⟩
  · rw [te, h]; rfl
  · rw [te, h]
    cases x with
    | table t => exact absurd rfl (hx t)
    | heading k t => rfl
    | paragraph t => rfl
    | plot a b => rfl
    | check p t => rfl
    | bars l => rfl
  · rw [te, h, hit, if_neg (by decide)]
    have g := hs.good _ (List.mem_of_getElem? hg)
    show [(t.headers.length : Int), rowTotal (t.headers.length : Int) (tabR t) - 1] ++ encoded (tabR t) = Vanbkh.encodeTable t
    have hr : rowTotal (t.headers.length : Int) (tabR t) = ((rowsR t).length : Int) := rowTotal_flat (by have := g.1.pos; omega) (rowsR_even g.1)
    rw [hr, encoded_of]
    unfold Vanbkh.encodeTable rowsR Vanbkh.ofNat
    rw [List.length_cons, List.length_map, List.append_assoc, show (((t.rows.length + 1 : Nat)) : Int) - 1 = (t.rows.length : Int) by omega]
end R
end
section
set_option Elab.async false
set_option linter.all false
/-! The calls: the mirror's run is the machine's. -/
namespace R
open Vanbkh (Bytes State)
def rawOf (c : Int) (ns g : B) : List (List Int) := if withList c = true then [c :: ns, g] else [c :: ns]
theorem whole_id (c : List (List Int)) : PyVanbkh.whole c = c := by
  unfold PyVanbkh.whole
  split <;> rfl
theorem perf_ask {s : State} (hs : Inv s) {c : Int} {ns : B} {k : Vanbkh.Call} (h1 : performed (st s) c ns [] = (st s, asked (st s) c ns)) (h2 : asked (st s) c ns = VanbkhNeutral.encode (Vanbkh.query s k)) (h3 : Vanbkh.step s k = (s, Vanbkh.query s k)) : performed (st s) c ns [] = res (Vanbkh.step s k) ∧ Inv (Vanbkh.step s k).1 := by
  rw [h1, h2, h3]
  exact ⟨rfl, hs⟩
theorem len0 {ns : B} (h : ns.length = 0) : ns = [] := List.length_eq_zero_iff.mp h
theorem len1 {ns : B} (h : ns.length = 1) : ∃ a, ns = [a] := List.length_eq_one_iff.mp h
theorem len2 {ns : B} (h : ns.length = 2) : ∃ a b, ns = [a, b] := match ns, h with
  | [a, b], _ => ⟨a, b, rfl⟩
theorem len3 {ns : B} (h : ns.length = 3) : ∃ a b c, ns = [a, b, c] := match ns, h with
  | [a, b, c], _ => ⟨a, b, c, rfl⟩
theorem step_of {s : State} (hs : Inv s) {c : Int} {ns g : B} (h0 : 0 ≤ c) (h1 : c ≤ 16) (hn : ns.length = arity c) (hg : lim g) (hg0 : withList c = false → g = []) :
    performed (st s) c ns g = (st (VanbkhNeutral.step s (rawOf c ns g)).1, (VanbkhNeutral.step s (rawOf c ns g)).2) ∧ Inv (VanbkhNeutral.step s (rawOf c ns g)).1 := by
  obtain ⟨m, rfl⟩ : ∃ m : Nat, c = m := ⟨c.toNat, by omega⟩
  have hm : m < 17 := by omega
  rcases m with _ | _ | _ | _ | _ | _ | _ | _ | _ | _ | _ | _ | _ | _ | _ | _ | _ | m
  · obtain ⟨a, rfl⟩ := len1 hn
    exact perf_heading hs a g
  · obtain rfl := len0 hn
    exact perf_paragraph hs g
  · obtain ⟨a, rfl⟩ := len1 hn
    exact perf_table hs a hg
  · obtain ⟨a, rfl⟩ := len1 hn
    exact perf_plot hs a g
  · obtain ⟨a, rfl⟩ := len1 hn
    exact perf_check hs a g
  · obtain rfl := len0 hn
    exact perf_bars hs hg
  · obtain ⟨a, rfl⟩ := len1 hn
    obtain rfl := hg0 rfl
    exact perf_remove hs a
  · obtain ⟨a, b, rfl⟩ := len2 hn
    obtain rfl := hg0 rfl
    exact perf_move hs a b
  · obtain ⟨a, b, c, rfl⟩ := len3 hn
    obtain rfl := hg0 rfl
    exact perf_sort hs a b c
  · obtain ⟨a, rfl⟩ := len1 hn
    exact perf_select hs a g
  · obtain ⟨a, b, rfl⟩ := len2 hn
    obtain rfl := hg0 rfl
    exact perf_ask hs (c := 10) (ns := [a, b]) (k := .itemLines a b) rfl (ask_lines hs a b) rfl
  · obtain ⟨a, rfl⟩ := len1 hn
    obtain rfl := hg0 rfl
    exact perf_ask hs (c := 11) (ns := [a]) (k := .documentLines a) rfl (ask_document hs a) rfl
  · obtain ⟨a, b, rfl⟩ := len2 hn
    obtain rfl := hg0 rfl
    exact perf_ask hs (c := 12) (ns := [a, b]) (k := .pages a b) rfl (ask_pages hs a b) rfl
  · obtain ⟨a, b, rfl⟩ := len2 hn
    obtain rfl := hg0 rfl
    exact perf_ask hs (c := 13) (ns := [a, b]) (k := .columnWidths a b) rfl (ask_widths hs a b) rfl
  · obtain rfl := len0 hn
    exact perf_read hs g
  · obtain rfl := len0 hn
    obtain rfl := hg0 rfl
    exact perf_ask hs (c := 15) (ns := []) (k := .kinds) rfl (ask_kinds s) rfl
  · obtain ⟨a, rfl⟩ := len1 hn
    obtain rfl := hg0 rfl
    exact perf_ask hs (c := 16) (ns := [a]) (k := .cells a) rfl (ask_cells hs a) rfl
  · omega
/-! ### parsing -/
theorem shape_of (c : Int) : PyVanbkh.shape c = if 0 ≤ c ∧ c ≤ 16 then some (arity c, if withList c = true then 1 else 0) else none := by
  by_cases h : 0 ≤ c ∧ c ≤ 16
  · rw [if_pos h]
    obtain ⟨m, rfl⟩ : ∃ m : Nat, c = m := ⟨c.toNat, by omega⟩
    have hm : m < 17 := by omega
    have key : ∀ m : Nat, m < 17 → PyVanbkh.shape (m : Int) = some (arity (m : Int), if withList (m : Int) = true then 1 else 0) := by decide
    exact key m hm
  · rw [if_neg h]
    unfold PyVanbkh.shape
    repeat rw [if_neg (by omega)]
theorem call_of {c : Int} {r : B} {raw : List (List Int)} {t : B} (h : PyFlat.call PyVanbkh.shape (c :: r) = some (raw, t)) :
    0 ≤ c ∧ c ≤ 16 ∧ callOk (c :: r) ∧ (call1 (c :: r)).a = c ∧ (call1 (c :: r)).b = r.take (arity c) ∧ (call1 (c :: r)).b.length = arity c ∧ (withList c = false → (call1 (c :: r)).c = []) ∧
    (∀ x ∈ (call1 (c :: r)).c, x ∈ r) ∧ (call1 (c :: r)).c.length ≤ r.length ∧
    raw = rawOf c (call1 (c :: r)).b (call1 (c :: r)).c ∧ t = (c :: r).drop (call1 (c :: r)).d := by
  have h : (match PyVanbkh.shape c with
    | none => none
    | some (n, k) => if r.length < n then none else match PyFlat.rows k (r.drop n) with
      | none => none
      | some (xs, t) => some ((c :: r.take n) :: xs, t)) = some (raw, t) := h
  rw [shape_of] at h
  by_cases hc : 0 ≤ c ∧ c ≤ 16
  · rw [if_pos hc] at h
    dsimp only at h
    by_cases hl : r.length < arity c
    · rw [if_pos hl] at h
      cases h
    rw [if_neg hl] at h
    have htl : (r.take (arity c)).length = arity c := by rw [List.length_take]; omega
    cases hw : withList c with
    | false =>
      have e1 : call1 (c :: r) = ⟨c, r.take (arity c), [], arity c + 1⟩ := if_neg (by rw [hw]; decide)
      rw [hw, if_neg (show ¬ false = true by decide)] at h
      have h : some ([c :: r.take (arity c)], r.drop (arity c)) = some (raw, t) := h
      injection h with h
      injection h with h2 h3
      rw [e1]
      refine ⟨hc.1, hc.2, ⟨hc.1, hc.2, by omega, fun z => by rw [hw] at z; cases z⟩, rfl, rfl, htl, fun _ => rfl, fun x hx => absurd hx List.not_mem_nil, Nat.zero_le _, ?_, ?_⟩
      · rw [← h2]
        unfold rawOf
        rw [hw, if_neg (show ¬ false = true by decide)]
      · rw [← h3]
        rfl
    | true =>
      have e1 : call1 (c :: r) = ⟨c, r.take (arity c), (r.drop (arity c + 1)).take (r.getD (arity c) 0).toNat, arity c + 2 + (r.getD (arity c) 0).toNat⟩ := if_pos hw
      rw [hw, if_pos rfl] at h
      have h : (match (match PyFlat.row (r.drop (arity c)) with
        | none => none
        | some (x, s) => some ([x], s)) with
        | none => none
        | some (xs, t) => some ((c :: r.take (arity c)) :: xs, t)) = some (raw, t) := by
        rw [← h]
        show _ = (match (match PyFlat.row (r.drop (arity c)) with
          | none => none
          | some (x, s) => (match some (([] : List (List Int)), s) with
            | none => none
            | some (xs, t) => some (x :: xs, t))) with
          | none => none
          | some (xs, t) => some ((c :: r.take (arity c)) :: xs, t))
        cases PyFlat.row (r.drop (arity c)) <;> rfl
      cases hd : r.drop (arity c) with
      | nil =>
        rw [hd] at h
        cases h
      | cons n q =>
        rw [hd] at h
        have hlen : r.length = arity c + (q.length + 1) := by
          have := congrArg List.length hd
          rw [List.length_drop, List.length_cons] at this
          omega
        have hn : r.getD (arity c) 0 = n := by
          rw [List.getD_eq_getElem?_getD]
          have := congrArg (fun z => z[0]?) hd
          rw [List.getElem?_drop] at this
          have this : r[arity c]? = some n := by simpa using this
          rw [this]
          rfl
        have hq : r.drop (arity c + 1) = q := by
          rw [← List.drop_drop, hd]
          rfl
        have hrow : PyFlat.row (n :: q) = if 0 ≤ n ∧ n.toNat ≤ q.length then some (q.take n.toNat, q.drop n.toNat) else none := rfl
        rw [hrow] at h
        by_cases hc2 : 0 ≤ n ∧ n.toNat ≤ q.length
        · rw [if_pos hc2] at h
          have h : some ([c :: r.take (arity c), q.take n.toNat], q.drop n.toNat) = some (raw, t) := h
          injection h with h
          injection h with h2 h3
          rw [e1, hn, hq]
          refine ⟨hc.1, hc.2, ⟨hc.1, hc.2, by omega, fun _ => ⟨by omega, by rw [hn]; exact hc2.1, by rw [hn]; omega⟩⟩, rfl, rfl, htl, fun z => (by cases z), fun x hx => ?_, ?_, ?_, ?_⟩
          · refine List.mem_of_mem_drop (i := arity c + 1) ?_
            rw [hq]
            exact List.mem_of_mem_take hx
          · show (q.take n.toNat).length ≤ _
            rw [List.length_take]
            omega
          · rw [← h2]
            unfold rawOf
            rw [hw, if_pos rfl]
          · rw [← h3]
            show _ = (c :: r).drop (arity c + 2 + n.toNat)
            rw [show arity c + 2 + n.toNat = (arity c + 1 + n.toNat) + 1 by omega, List.drop_succ_cons, ← List.drop_drop, hq]
        · rw [if_neg hc2] at h
          cases h
  · rw [if_neg hc] at h
    cases h
theorem told_cons (a : List Int) (l : List (List Int)) : PyFlat.told (a :: l) = (a.length : Int) :: a ++ PyFlat.told l := by
  unfold PyFlat.told
  rw [List.flatMap_cons]
theorem run_of : ∀ (f : Nat) (s : State) (l : B) (raws : List (List (List Int))), Inv s → lim l → l.length ≤ 17000 → PyFlat.calls PyVanbkh.shape f l = some raws →
    (answersGo f (st s) l = PyFlat.told (PyFlat.played VanbkhNeutral.step s (raws.map PyVanbkh.whole))) ∧ ((answersGo f (st s) l).length ≤ 16777216 → runOk f (st s) l)
  | f, s, [], raws, _, _, _, h => by
    have e : PyFlat.calls PyVanbkh.shape f [] = some [] := by cases f <;> rfl
    rw [e] at h
    obtain rfl : [] = raws := Option.some.inj h
    have e2 : answersGo f (st s) [] = [] := by cases f <;> rfl
    refine ⟨by rw [e2]; rfl, fun _ => ?_⟩
    cases f <;> trivial
  | 0, s, x :: r, raws, _, _, _, h => by cases h
  | f + 1, s, x :: r, raws, hs, hl, hlen, h => by
    have h : (match PyFlat.call PyVanbkh.shape (x :: r) with
      | none => none
      | some (c, t) => match PyFlat.calls PyVanbkh.shape f t with
        | none => none
        | some cs => some (c :: cs)) = some raws := h
    cases hc : PyFlat.call PyVanbkh.shape (x :: r) with
    | none => rw [hc] at h; cases h
    | some ct =>
      obtain ⟨raw, t⟩ := ct
      rw [hc] at h
      dsimp only at h
      cases hcs : PyFlat.calls PyVanbkh.shape f t with
      | none => rw [hcs] at h; cases h
      | some cs =>
        rw [hcs] at h
        obtain rfl : raw :: cs = raws := Option.some.inj h
        obtain ⟨c0, c16, ok, ea, eb, ebl, ec0, ecm, ecl, er, et⟩ := call_of hc
        have hgl : lim (call1 (x :: r)).c := fun y hy => hl y (List.mem_cons_of_mem _ (ecm y hy))
        obtain ⟨p1, p2⟩ := step_of hs c0 c16 ebl hgl ec0
        rw [← er] at p1 p2
        have htl : t.length ≤ 17000 := by
          rw [et, List.length_drop]
          omega
        have htm : lim t := by
          rw [et]
          exact lim_drop hl _
        obtain ⟨i1, i2⟩ := run_of f (VanbkhNeutral.step s raw).1 t cs p2 htm htl hcs
        have eg : answersGo (f + 1) (st s) (x :: r) = ((performed (st s) (call1 (x :: r)).a (call1 (x :: r)).b (call1 (x :: r)).c).2.length : Int) :: (performed (st s) (call1 (x :: r)).a (call1 (x :: r)).b (call1 (x :: r)).c).2 ++ answersGo f (performed (st s) (call1 (x :: r)).a (call1 (x :: r)).b (call1 (x :: r)).c).1 ((x :: r).drop (call1 (x :: r)).d) := rfl
        rw [ea, p1, ← et] at eg
        dsimp only at eg
        refine ⟨?_, fun hb => ?_⟩
        · rw [eg, i1, List.map_cons, whole_id]
          show _ = PyFlat.told ((VanbkhNeutral.step s raw).2 :: PyFlat.played VanbkhNeutral.step (VanbkhNeutral.step s raw).1 (cs.map PyVanbkh.whole))
          rw [told_cons]
        · rw [eg, List.length_append, List.length_cons] at hb
          show callOk (x :: r) ∧ perfOk (st s) (call1 (x :: r)).a (call1 (x :: r)).b (call1 (x :: r)).c ∧ runOk f (performed (st s) (call1 (x :: r)).a (call1 (x :: r)).b (call1 (x :: r)).c).1 ((x :: r).drop (call1 (x :: r)).d)
          rw [ea, ← et]
          refine ⟨ok, ⟨stockOk_of hs, c0, c16, by omega, ?_, ?_⟩, ?_⟩
          · rw [List.length_cons] at hlen
            omega
          · rw [p1]
            show (VanbkhNeutral.step s raw).2.length ≤ 16777216
            omega
          · rw [p1]
            exact i2 (by omega)
theorem plain (l : List Int) (hlen : l.length ≤ 17000) (hl : ∀ x ∈ l, -1000000000000000000 ≤ x ∧ x ≤ 1000000000000000000) (ha : PyVanbkh.answers_asked l = true) : runOk l.length [] l ∧ (answers l).length ≤ 16777216 ∧ PyVanbkh.answers l = answers l := by
  unfold PyVanbkh.answers_asked at ha
  cases h : PyFlat.calls PyVanbkh.shape l.length l with
  | none => rw [h] at ha; cases ha
  | some raws =>
    rw [h] at ha
    dsimp only at ha
    obtain ⟨i1, i2⟩ := run_of l.length Vanbkh.start l raws ⟨Nat.zero_le _, fun x hx => absurd hx List.not_mem_nil⟩ hl hlen h
    have e : PyVanbkh.answers l = PyFlat.told (PyFlat.played VanbkhNeutral.step VanbkhNeutral.start (raws.map PyVanbkh.whole)) := by
      unfold PyVanbkh.answers PyVanbkh.calls
      rw [h]
    have e2 : PyVanbkh.answers l = answers l := e.trans i1.symm
    rw [Bool.and_eq_true] at ha
    have hs : (PyVanbkh.answers l).length ≤ 10000000 := of_decide_eq_true ha.2
    rw [e2] at hs
    have hs : (answersGo l.length (st Vanbkh.start) l).length ≤ 10000000 := hs
    exact ⟨i2 (by omega), by show (answersGo l.length (st Vanbkh.start) l).length ≤ _; omega, e2⟩
end R
end
section
set_option Elab.async false
set_option linter.all false
set_option maxRecDepth 100000
set_option maxHeartbeats 2000000
/-! A typed layer: values that stand for data in a part of the heap that stays; what readings evaluate to, as data. -/
namespace Ty
open PySem PySem.Spec PyProof.Rows L2
abbrev Fg := PySem.W.Frag
/-! ### parts of the heap -/
def Ex (F F' : Hp) : Prop := ∀ a o, F a = some o → F' a = some o
theorem Ex.refl (F : Hp) : Ex F F := fun _ _ h => h
theorem Ex.trans {A B C : Hp} (h : Ex A B) (k : Ex B C) : Ex A C := fun a o e => k a o (h a o e)
theorem Ex.new {F : Hp} {p : Addr} {o : HO} (h : F p = none) : Ex F (upd F p o) := fun a u e => by
  rw [upd_ne (ne_of_none e h)]
  exact e
theorem Ex.mut {F H : Hp} {p : Addr} {o : HO} (e : Ex F H) (h : F p = none) : Ex F (upd H p o) := fun a u ha => by
  rw [upd_ne (ne_of_none ha h)]
  exact e a u ha
theorem Ex.both {F H : Hp} {p : Addr} {o : HO} (e : Ex F H) : Ex (upd F p o) (upd H p o) := fun a u ha => by
  by_cases h : a = p
  · subst h
    rw [upd_same] at ha ⊢
    exact ha
  · rw [upd_ne h] at ha ⊢
    exact e a u ha
theorem Ex.none {F H : Hp} {p : Addr} (e : Ex F H) (h : H p = none) : F p = none := by
  cases q : F p with
  | none => rfl
  | some o =>
    rw [e p o q] at h
    cases h
theorem Ex.sqL {K : Fg} {F H : Hp} {a : Addr} {xs : List V} (e : Ex F H) (h : SqL K F a xs) : SqL K H a xs := by
  rcases h with (h | ⟨o, h⟩) | h
  · exact .inl (.inl (e a _ h))
  · exact .inl (.inr ⟨o, e a _ h⟩)
  · exact .inr h
theorem sqL_of {K : Fg} {H : Hp} {a : Addr} {xs : List V} (h : H a = some (.lst xs)) : SqL K H a xs := .inl (.inl h)
theorem sqT_of {K : Fg} {H : Hp} {a : Addr} {xs : List V} (h : H a = some (.tup xs)) : SqT K H a xs := .inl (.inl h)
/-- from F within H to F' within H': both grow, F' by what H has not -/
structure Ext (F H F' H' : Hp) : Prop where
  fF : Ex F F'
  hH : Ex H H'
  sub : Ex F' H'
  fresh : ∀ p, F p = none → H p ≠ none → F' p = none
theorem Ext.refl {F H : Hp} (e : Ex F H) : Ext F H F H := ⟨Ex.refl F, Ex.refl H, e, fun _ h _ => h⟩
theorem Ext.trans {F H F1 H1 F2 H2 : Hp} (a : Ext F H F1 H1) (b : Ext F1 H1 F2 H2) : Ext F H F2 H2 :=
  ⟨a.fF.trans b.fF, a.hH.trans b.hH, b.sub, fun p h k => b.fresh p (a.fresh p h k) fun z => k (a.hH.none z)⟩
/-- a new object that stays -/
theorem Ext.new {F H : Hp} {p : Addr} {o : HO} (e : Ex F H) (h : H p = none) : Ext F H (upd F p o) (upd H p o) :=
  ⟨Ex.new (e.none h), Ex.new h, e.both, fun q hq k => by rw [upd_ne (fun z => k (by rw [z]; exact h))]; exact hq⟩
/-- a new object that may change -/
theorem Ext.newM {F H : Hp} {p : Addr} {o : HO} (e : Ex F H) (h : H p = none) : Ext F H F (upd H p o) := ⟨Ex.refl F, Ex.new h, e.mut (e.none h), fun _ hq _ => hq⟩
/-- a change of an object that neither had -/
theorem Ext.store {F H F1 H1 : Hp} {p : Addr} {o : HO} (e : Ext F H F1 H1) (h0 : H p = none) (h1 : F1 p = none) : Ext F H F1 (upd H1 p o) := ⟨e.fF, e.hH.mut h0, e.sub.mut h1, e.fresh⟩
/-- an object that was made on the way stays from now on -/
theorem Ext.freeze {F H F1 H1 : Hp} {p : Addr} {o : HO} (e : Ext F H F1 H1) (h0 : H p = none) (h1 : F1 p = none) (h : H1 p = some o) : Ext F H (upd F1 p o) H1 :=
  ⟨fun a u ha => by rw [upd_ne (ne_of_none (e.fF a u ha) h1)]; exact e.fF a u ha, e.hH, fun a u ha => by
    by_cases q : a = p
    · subst q
      rw [upd_same] at ha
      rw [h]
      exact ha
    · rw [upd_ne q] at ha
      exact e.sub a u ha, fun q hq k => by
    rw [upd_ne (fun z => k (by rw [z]; exact h0))]
    exact e.fresh q hq k⟩

/-! ### data -/
inductive All2 {α β : Type _} (R : α → β → Prop) : List α → List β → Prop
  | nil : All2 R [] []
  | cons {a : α} {b : β} {l : List α} {m : List β} : R a b → All2 R l m → All2 R (a :: l) (b :: m)
section
variable {α β : Type _} {R S : α → β → Prop}
theorem All2.imp (h : ∀ a b, R a b → S a b) : ∀ {l : List α} {m : List β}, All2 R l m → All2 S l m
  | _, _, .nil => .nil
  | _, _, .cons r t => .cons (h _ _ r) (All2.imp h t)
theorem All2.length : ∀ {l : List α} {m : List β}, All2 R l m → l.length = m.length
  | _, _, .nil => rfl
  | _, _, .cons _ t => by rw [List.length_cons, List.length_cons, All2.length t]
theorem All2.append : ∀ {l : List α} {m : List β} {l' : List α} {m' : List β}, All2 R l m → All2 R l' m' → All2 R (l ++ l') (m ++ m')
  | _, _, _, _, .nil, h => h
  | _, _, _, _, .cons r t, h => .cons r (All2.append t h)
theorem All2.one {a : α} {b : β} (h : R a b) : All2 R [a] [b] := .cons h .nil
theorem All2.take : ∀ {l : List α} {m : List β} (n : Nat), All2 R l m → All2 R (l.take n) (m.take n)
  | _, _, 0, _ => .nil
  | _, _, _ + 1, .nil => .nil
  | _, _, n + 1, .cons r t => .cons r (All2.take n t)
theorem All2.drop : ∀ {l : List α} {m : List β} (n : Nat), All2 R l m → All2 R (l.drop n) (m.drop n)
  | _, _, 0, h => h
  | _, _, _ + 1, .nil => .nil
  | _, _, n + 1, .cons _ t => All2.drop n t
theorem All2.get : ∀ {l : List α} {m : List β} {i : Nat} {b : β}, All2 R l m → m[i]? = some b → ∃ a, l[i]? = some a ∧ R a b
  | _, _, _, _, .nil, e => by simp at e
  | _, _, 0, _, .cons r _, e => by
    have e' := Option.some.inj e
    subst e'
    exact ⟨_, rfl, r⟩
  | _, _, i + 1, b, .cons _ t, e => All2.get (i := i) (b := b) t e
theorem All2.get' : ∀ {l : List α} {m : List β} {i : Nat} {a : α}, All2 R l m → l[i]? = some a → ∃ b, m[i]? = some b ∧ R a b
  | _, _, _, _, .nil, e => by simp at e
  | _, _, 0, _, .cons r _, e => by
    have e' := Option.some.inj e
    subst e'
    exact ⟨_, rfl, r⟩
  | _, _, i + 1, b, .cons _ t, e => All2.get' (i := i) (a := b) t e
theorem All2.set {a : α} {b : β} (r : R a b) : ∀ {l : List α} {m : List β} (i : Nat), All2 R l m → All2 R (l.set i a) (m.set i b)
  | _, _, _, .nil => .nil
  | _, _, 0, .cons _ t => .cons r t
  | _, _, i + 1, .cons q t => .cons q (All2.set r i t)
theorem All2.filterMap {f : Nat → Option α} {g : Nat → Option β} : ∀ (ks : List Nat), (∀ k ∈ ks, match f k, g k with
    | some a, some b => R a b
    | none, none => True
    | _, _ => False) → All2 R (ks.filterMap f) (ks.filterMap g)
  | [], _ => .nil
  | k :: ks, h => by
    have h1 := h k List.mem_cons_self
    have h2 := All2.filterMap (f := f) (g := g) ks fun j hj => h j (List.mem_cons_of_mem _ hj)
    rw [List.filterMap_cons, List.filterMap_cons]
    cases e : f k with
    | none =>
      cases e' : g k with
      | none => exact h2
      | some b => rw [e, e'] at h1; exact h1.elim
    | some a =>
      cases e' : g k with
      | none => rw [e, e'] at h1; exact h1.elim
      | some b => rw [e, e'] at h1; exact .cons h1 h2
end

class Rep (α : Type) where
  rep : Fg → Hp → V → α → Prop
  mono : ∀ {K : Fg} {F F' : Hp} {v : V} {x : α}, Ex F F' → rep K F v x → rep K F' v x
open Rep (rep)
instance : Rep Int := ⟨fun _ _ v x => v = .int x, fun _ h => h⟩
instance : Rep Bool := ⟨fun _ _ v x => v = .bl x, fun _ h => h⟩
instance : Rep Str := ⟨fun _ _ v x => v = .str x, fun _ h => h⟩
instance instL {α : Type} [Rep α] : Rep (List α) := ⟨fun K F v l => ∃ a vs, v = .ref a ∧ F a = some (.lst vs) ∧ All2 (rep K F) vs l,
  fun e ⟨a, vs, h1, h2, h3⟩ => ⟨a, vs, h1, e _ _ h2, h3.imp fun _ _ => Rep.mono e⟩⟩
instance instP {α β : Type} [Rep α] [Rep β] : Rep (α × β) := ⟨fun K F v x => ∃ a v1 v2, v = .ref a ∧ F a = some (.tup [v1, v2]) ∧ rep K F v1 x.1 ∧ rep K F v2 x.2,
  fun e ⟨a, v1, v2, h1, h2, h3, h4⟩ => ⟨a, v1, v2, h1, e _ _ h2, Rep.mono e h3, Rep.mono e h4⟩⟩
instance inst3 {α β γ : Type} [Rep α] [Rep β] [Rep γ] : Rep (R.T3 α β γ) := ⟨fun K F v x => ∃ a v1 v2 v3, v = .ref a ∧ F a = some (.tup [v1, v2, v3]) ∧ rep K F v1 x.a ∧ rep K F v2 x.b ∧ rep K F v3 x.c,
  fun e ⟨a, v1, v2, v3, h1, h2, h3, h4, h5⟩ => ⟨a, v1, v2, v3, h1, e _ _ h2, Rep.mono e h3, Rep.mono e h4, Rep.mono e h5⟩⟩
instance inst4 {α β γ δ : Type} [Rep α] [Rep β] [Rep γ] [Rep δ] : Rep (R.T4 α β γ δ) := ⟨fun K F v x => ∃ a v1 v2 v3 v4, v = .ref a ∧ F a = some (.tup [v1, v2, v3, v4]) ∧ rep K F v1 x.a ∧ rep K F v2 x.b ∧ rep K F v3 x.c ∧ rep K F v4 x.d,
  fun e ⟨a, v1, v2, v3, v4, h1, h2, h3, h4, h5, h6⟩ => ⟨a, v1, v2, v3, v4, h1, e _ _ h2, Rep.mono e h3, Rep.mono e h4, Rep.mono e h5, Rep.mono e h6⟩⟩
/-- an item is a tuple of three -/
def repI (K : Fg) (F : Hp) (v : V) : R.Item → Prop
  | .head l t => rep K F v (R.T3.mk (0 : Int) l t)
  | .para t => rep K F v (R.T3.mk (1 : Int) (0 : Int) t)
  | .tab n cs => rep K F v (R.T3.mk (2 : Int) n cs)
  | .plot h co => rep K F v (R.T3.mk (3 : Int) h co)
  | .check p t => rep K F v (R.T3.mk (4 : Int) p t)
  | .bars cs => rep K F v (R.T3.mk (5 : Int) (0 : Int) cs)
instance instI : Rep R.Item := ⟨repI, fun {_ _ _ _ x} e h => by cases x <;> exact Rep.mono (α := R.T3 _ _ _) e h⟩
/-- a list that is handed in: it stands, and is read alone -/
structure Frz where
  l : List Int
instance instF : Rep Frz := ⟨fun K F v x => ∃ a, v = .ref a ∧ SqL K F a (x.l.map V.int), fun e ⟨a, h1, h2⟩ => ⟨a, h1, e.sqL h2⟩⟩
structure Dat where
  {α : Type}
  [inst : Rep α]
  val : α
def repD (K : Fg) (F : Hp) (v : V) (d : Dat) : Prop := d.inst.rep K F v d.val
theorem repD_mono {K : Fg} {F F' : Hp} {v : V} {d : Dat} (e : Ex F F') (h : repD K F v d) : repD K F' v d := d.inst.mono e h
abbrev D {α : Type} [Rep α] (x : α) : Dat := ⟨x⟩
theorem ints_of {K : Fg} {F : Hp} : ∀ {vs : List V} {l : List Int}, All2 (rep K F) vs l → vs = l.map V.int
  | _, _, .nil => rfl
  | _, _, .cons r t => by
    have r' : _ = V.int _ := r
    rw [r', ints_of t]
    rfl
theorem all2_ints {K : Fg} {F : Hp} : ∀ (l : List Int), All2 (rep K F) (l.map V.int) l
  | [] => .nil
  | x :: r => .cons rfl (all2_ints r)
theorem bools_of {K : Fg} {F : Hp} : ∀ {vs : List V} {l : List Bool}, All2 (rep K F) vs l → vs = l.map V.bl
  | _, _, .nil => rfl
  | _, _, .cons r t => by
    have r' : _ = V.bl _ := r
    rw [r', bools_of t]
    rfl
/-- of whole numbers a list stands alike wherever it stands -/
theorem rep_ints {K : Fg} {F : Hp} {v : V} {l : List Int} (h : rep K F v l) : ∃ a, v = .ref a ∧ F a = some (.lst (l.map V.int)) := by
  obtain ⟨a, vs, h1, h2, h3⟩ := h
  rw [ints_of h3] at h2
  exact ⟨a, h1, h2⟩

/-! ### what readings evaluate to -/
section
variable {α β γ : Type} [Rep α] [Rep β] [Rep γ]
def EvA (K : Fg) (σ : L2.St) (F H : Hp) (te : TE) (x : α) : Prop := ∀ Q : VK, (∀ v F' H', Ext F H F' H' → rep K F' v x → Q v H') → te σ H Q
def Ev (K : Fg) (σ : L2.St) (F : Hp) (te : TE) (x : α) : Prop := ∀ F1 H1, Ex F F1 → Ex F1 H1 → EvA K σ F1 H1 te x
/-- a new list, nobody's yet -/
def EvNA (K : Fg) (σ : L2.St) (F H : Hp) (te : TE) (l : List α) : Prop :=
  ∀ Q : VK, (∀ p vs F' H', Ext F H F' H' → H p = none → F' p = none → H' p = some (.lst vs) → All2 (rep K F') vs l → Q (.ref p) H') → te σ H Q
def EvN (K : Fg) (σ : L2.St) (F : Hp) (te : TE) (l : List α) : Prop := ∀ F1 H1, Ex F F1 → Ex F1 H1 → EvNA K σ F1 H1 te l
def EvT (K : Fg) (σ : L2.St) (F : Hp) (tt : TT) (b : Bool) : Prop := ∀ F1 H1, Ex F F1 → Ex F1 H1 → ∀ Q : Bool → Hp → Prop, (∀ F' H', Ext F1 H1 F' H' → Q b H') → tt σ H1 Q
def EvL (K : Fg) (σ : L2.St) (F : Hp) (ta : TA) (ds : List Dat) : Prop := ∀ F1 H1, Ex F F1 → Ex F1 H1 → ∀ Q : List V → Hp → Prop, (∀ vs F' H', Ext F1 H1 F' H' → All2 (repD K F') vs ds → Q vs H') → ta σ H1 Q
def EvO (K : Fg) (σ : L2.St) (F : Hp) (to : TO) (o : Option Int) : Prop := ∀ F1 H1, Ex F F1 → Ex F1 H1 → ∀ Q : Option Int → Hp → Prop, (∀ F' H', Ext F1 H1 F' H' → Q o H') → to σ H1 Q
/-- operations on values -/
def RO (K : Fg) (r : R2) (x : α) (y : β) (z : γ) : Prop := ∀ F H v w, Ex F H → rep K F v x → rep K F w y → ∀ Q : VK, (∀ u F' H', Ext F H F' H' → rep K F' u z → Q u H') → r v w H Q
def RC (K : Fg) (r : List V → Hp → VK → Prop) (ds : List Dat) (z : γ) : Prop := ∀ F H vs, Ex F H → All2 (repD K F) vs ds → ∀ Q : VK, (∀ u F' H', Ext F H F' H' → rep K F' u z → Q u H') → r vs H Q
def RCN (K : Fg) (r : List V → Hp → VK → Prop) (ds : List Dat) (l : List γ) : Prop :=
  ∀ F H vs, Ex F H → All2 (repD K F) vs ds → ∀ Q : VK, (∀ p us F' H', Ext F H F' H' → H p = none → F' p = none → H' p = some (.lst us) → All2 (rep K F') us l → Q (.ref p) H') → r vs H Q
end

section
variable {K : Fg} {σ : L2.St} {F F' H H' : Hp} {ta tb te : TE} {t u : TT} {r : R2} {α β γ : Type} [Rep α] [Rep β] [Rep γ] {x : α} {y : β} {z : γ}
theorem Ev.mono (e : Ex F F') (h : Ev K σ F te x) : Ev K σ F' te x := fun F1 H1 a b => h F1 H1 (e.trans a) b
theorem EvT.mono {b : Bool} (e : Ex F F') (h : EvT K σ F t b) : EvT K σ F' t b := fun F1 H1 a c => h F1 H1 (e.trans a) c
theorem EvN.mono {l : List α} (e : Ex F F') (h : EvN K σ F te l) : EvN K σ F' te l := fun F1 H1 a b => h F1 H1 (e.trans a) b
theorem EvL.mono {t : TA} {ds : List Dat} (e : Ex F F') (h : EvL K σ F t ds) : EvL K σ F' t ds := fun F1 H1 a b => h F1 H1 (e.trans a) b
theorem Ev.cast {x' : α} (h : Ev K σ F te x) (e : x = x') : Ev K σ F te x' := by rw [← e]; exact h
theorem EvN.cast {l l' : List α} (h : EvN K σ F te l) (e : l = l') : EvN K σ F te l' := by rw [← e]; exact h
theorem EvT.cast {b b' : Bool} (h : EvT K σ F t b) (e : b = b') : EvT K σ F t b' := by rw [← e]; exact h
theorem EvNA.ev {l : List α} (hs : Ex F H) (h : EvNA K σ F H te l) : EvA K σ F H te l := fun Q q => h _ fun p vs F1 H1 e h0 h1 h2 h3 =>
  q _ (upd F1 p (.lst vs)) H1 (e.freeze h0 h1 h2) ⟨p, vs, rfl, upd_same, h3.imp fun _ _ => Rep.mono (Ex.new h1)⟩
theorem EvN.ev {l : List α} (h : EvN K σ F te l) : Ev K σ F te l := fun F1 H1 a b => (h F1 H1 a b).ev b
theorem ev_var {i : Nat} {v : V} (h : σ[i]? = some (some v)) (hr : rep K F v x) : Ev K σ F (tVar i) x := fun F1 H1 a b Q q => ⟨v, h, q v F1 H1 (Ext.refl b) (Rep.mono a hr)⟩
theorem ev_int {n : Int} : Ev K σ F (tC (.int n)) n := fun F1 H1 _ b Q q => q _ F1 H1 (Ext.refl b) rfl
theorem ev_bl {n : Bool} : Ev K σ F (tC (.bl n)) n := fun F1 H1 _ b Q q => q _ F1 H1 (Ext.refl b) rfl
theorem ev_str {n : Str} : Ev K σ F (tC (.str n)) n := fun F1 H1 _ b Q q => q _ F1 H1 (Ext.refl b) rfl
theorem ev_op (ha : Ev K σ F ta x) (hb : Ev K σ F tb y) (hr : RO K r x y z) : Ev K σ F (tOp r ta tb) z := fun F1 H1 a b Q q =>
  ha F1 H1 a b _ fun v F2 H2 e2 r2 => hb F2 H2 (a.trans e2.fF) e2.sub _ fun w F3 H3 e3 r3 => hr F3 H3 v w e3.sub (Rep.mono e3.fF r2) r3 Q fun s F4 H4 e4 r4 => q s F4 H4 ((e2.trans e3).trans e4) r4
theorem ev_un {r : V → Hp → VK → Prop} (ha : Ev K σ F ta x) (hr : ∀ F H v, Ex F H → rep K F v x → ∀ Q : VK, (∀ u F' H', Ext F H F' H' → rep K F' u z → Q u H') → r v H Q) : Ev K σ F (tUn r ta) z := fun F1 H1 a b Q q =>
  ha F1 H1 a b _ fun v F2 H2 e2 r2 => hr F2 H2 v e2.sub r2 Q fun s F4 H4 e4 r4 => q s F4 H4 (e2.trans e4) r4
theorem el_nil : EvL K σ F tNil [] := fun F1 H1 _ b Q q => q [] F1 H1 (Ext.refl b) .nil
theorem el_cons {tr : TA} {ds : List Dat} (h : Ev K σ F te x) (hr : EvL K σ F tr ds) : EvL K σ F (tCons te tr) (⟨x⟩ :: ds) := fun F1 H1 a b Q q =>
  h F1 H1 a b _ fun v F2 H2 e2 r2 => hr F2 H2 (a.trans e2.fF) e2.sub _ fun vs F3 H3 e3 r3 => q _ F3 H3 (e2.trans e3) (.cons (Rep.mono e3.fF r2) r3)
theorem ev_cb {r : List V → Hp → VK → Prop} {t : TA} {ds : List Dat} (h : EvL K σ F t ds) (hr : RC K r ds z) : Ev K σ F (tCB r t) z := fun F1 H1 a b Q q =>
  h F1 H1 a b _ fun vs F2 H2 e2 r2 => hr F2 H2 vs e2.sub r2 Q fun s F4 H4 e4 r4 => q s F4 H4 (e2.trans e4) r4
theorem en_cb {r : List V → Hp → VK → Prop} {t : TA} {ds : List Dat} {l : List α} (h : EvL K σ F t ds) (hr : RCN K r ds l) : EvN K σ F (tCB r t) l := fun F1 H1 a b Q q =>
  h F1 H1 a b _ fun vs F2 H2 e2 r2 => hr F2 H2 vs e2.sub r2 Q fun p us F4 H4 e4 h0 h1 h2 r4 => q p us F4 H4 (e2.trans e4) (e2.hH.none h0) h1 h2 r4

/-! ### numbers -/
theorem ro_I0 {g : Int → Int → Int} {i j : Int} : RO K (rI0 fun i j => .int (g i j)) i j (g i j) := fun F H v w e hv hw Q q => ⟨i, j, hv, hw, q _ F H (Ext.refl e) rfl⟩
theorem ro_I {C : Int → Int → Prop} {g : Int → Int → Int} {i j : Int} (h : C i j) : RO K (rI C fun i j => .int (g i j)) i j (g i j) := fun F H v w e hv hw Q q => ⟨i, j, hv, hw, h, q _ F H (Ext.refl e) rfl⟩
theorem ro_B0 {g : Int → Int → Bool} {i j : Int} : RO K (rI0 fun i j => .bl (g i j)) i j (g i j) := fun F H v w e hv hw Q q => ⟨i, j, hv, hw, q _ F H (Ext.refl e) rfl⟩
theorem ev_add {i j : Int} (ha : Ev K σ F ta i) (hb : Ev K σ F tb j) : Ev K σ F (tOp (rI0 fun i j => .int (i + j)) ta tb) (i + j) := ev_op ha hb ro_I0
theorem ev_sub {i j : Int} (ha : Ev K σ F ta i) (hb : Ev K σ F tb j) : Ev K σ F (tOp (rI0 fun i j => .int (i - j)) ta tb) (i - j) := ev_op ha hb ro_I0
theorem ev_mul {i j : Int} (ha : Ev K σ F ta i) (hb : Ev K σ F tb j) (h : CMul i j) : Ev K σ F (tOp (rI CMul fun i j => .int (i * j)) ta tb) (i * j) := ev_op ha hb (ro_I h)
theorem ev_fdiv {i j : Int} (ha : Ev K σ F ta i) (hb : Ev K σ F tb j) (h : CDivW i j) : Ev K σ F (tOp (rI CDivW fun i j => .int (i / j)) ta tb) (i / j) := ev_op ha hb (ro_I h)
theorem ev_mod {i j : Int} (ha : Ev K σ F ta i) (hb : Ev K σ F tb j) (h : 0 < j) : Ev K σ F (tOp (rI (fun _ j => j ≠ 0) fun i j => .int (i.fmod j)) ta tb) (i % j) :=
  (ev_op ha hb (ro_I (C := fun _ j => j ≠ 0) (g := fun i j => i.fmod j) (by omega))).cast (Int.fmod_eq_emod_of_nonneg i (by omega))
theorem ev_neg {i : Int} (ha : Ev K σ F ta i) : Ev K σ F (tUn (rU fun i => .int (-i)) ta) (-i) := ev_un ha fun F H v e hv Q q => ⟨i, hv, q _ F H (Ext.refl e) rfl⟩
theorem ev_lt {i j : Int} (ha : Ev K σ F ta i) (hb : Ev K σ F tb j) : Ev K σ F (tOp (rI0 fun i j => .bl (decide (i < j))) ta tb) (decide (i < j)) := ev_op ha hb ro_B0
theorem ev_le {i j : Int} (ha : Ev K σ F ta i) (hb : Ev K σ F tb j) : Ev K σ F (tOp (rI0 fun i j => .bl (decide (i ≤ j))) ta tb) (decide (i ≤ j)) := ev_op ha hb ro_B0
theorem ev_gt {i j : Int} (ha : Ev K σ F ta i) (hb : Ev K σ F tb j) : Ev K σ F (tOp (rI0 fun i j => .bl (decide (j < i))) ta tb) (decide (j < i)) := ev_op ha hb ro_B0
theorem ev_ge {i j : Int} (ha : Ev K σ F ta i) (hb : Ev K σ F tb j) : Ev K σ F (tOp (rI0 fun i j => .bl (decide (j ≤ i))) ta tb) (decide (j ≤ i)) := ev_op ha hb ro_B0
theorem dec_int (i j : Int) : decide (V.int i = V.int j) = decide (i = j) := by
  by_cases h : i = j
  · subst h; simp
  · rw [decide_eq_false h, decide_eq_false fun e => h (V.int.inj e)]
theorem ev_eq {i j : Int} (ha : Ev K σ F ta i) (hb : Ev K σ F tb j) : Ev K σ F (tOp rEq ta tb) (decide (i = j)) := ev_op ha hb fun F H v w e hv hw Q q => by
  obtain rfl : v = .int i := hv
  obtain rfl : w = .int j := hw
  exact ⟨rfl, q _ F H (Ext.refl e) (congrArg V.bl (dec_int i j))⟩
theorem ev_ne {i j : Int} (ha : Ev K σ F ta i) (hb : Ev K σ F tb j) : Ev K σ F (tOp rNe ta tb) (!decide (i = j)) := ev_op ha hb fun F H v w e hv hw Q q => by
  obtain rfl : v = .int i := hv
  obtain rfl : w = .int j := hw
  exact ⟨rfl, q _ F H (Ext.refl e) (congrArg V.bl (congrArg not (dec_int i j)))⟩
/-- a <= b <= c -/
theorem ev_chainLe {tc : TE} {i j k : Int} (ha : Ev K σ F ta i) (hb : Ev K σ F tb j) (hc : Ev K σ F tc k) :
    Ev K σ F (tChain (rI0 fun i j => .bl (decide (i ≤ j))) (rI0 fun i j => .bl (decide (i ≤ j))) ta tb tc) (decide (i ≤ j) && decide (j ≤ k)) := fun F1 H1 a b Q q =>
  ha F1 H1 a b _ fun v F2 H2 e2 r2 => hb F2 H2 (a.trans e2.fF) e2.sub _ fun w F3 H3 e3 r3 => ⟨i, j, r2, r3, _, rfl, by
    by_cases h : i ≤ j
    · rw [decide_eq_true h]
      show tc σ H3 _
      exact hc F3 H3 ((a.trans e2.fF).trans e3.fF) e3.sub _ fun s F4 H4 e4 r4 => ⟨j, k, r3, r4, q _ F4 H4 ((e2.trans e3).trans e4) (by
        show V.bl _ = V.bl _
        rw [decide_eq_true h, Bool.true_and])⟩
    · rw [decide_eq_false h]
      show Q (.bl false) H3
      exact q _ F3 H3 (e2.trans e3) (by
        show V.bl _ = V.bl _
        rw [decide_eq_false h, Bool.false_and])⟩
theorem ev_and {a b : Bool} (h1 : Ev K σ F ta a) (h2 : a = true → Ev K σ F tb b) : Ev K σ F (tAndV ta tb) (a && b) := fun F1 H1 e s Q q => h1 F1 H1 e s _ fun v F2 H2 e2 r2 => ⟨a, r2, by
  cases a with
  | true =>
    show tb σ H2 Q
    exact h2 rfl F2 H2 (e.trans e2.fF) e2.sub Q fun w F3 H3 e3 r3 => q w F3 H3 (e2.trans e3) r3
  | false =>
    show Q (.bl false) H2
    exact q _ F2 H2 e2 rfl⟩
theorem ev_or {a b : Bool} (h1 : Ev K σ F ta a) (h2 : a = false → Ev K σ F tb b) : Ev K σ F (tOrV ta tb) (a || b) := fun F1 H1 e s Q q => h1 F1 H1 e s _ fun v F2 H2 e2 r2 => ⟨a, r2, by
  cases a with
  | true =>
    show Q (.bl true) H2
    exact q _ F2 H2 e2 rfl
  | false =>
    show tb σ H2 Q
    exact h2 rfl F2 H2 (e.trans e2.fF) e2.sub Q fun w F3 H3 e3 r3 => q w F3 H3 (e2.trans e3) r3⟩
theorem ev_not {a : Bool} (h1 : Ev K σ F ta a) : Ev K σ F (tNotV ta) (!a) := fun F1 H1 e s Q q => h1 F1 H1 e s _ fun v F2 H2 e2 r2 => ⟨a, r2, q _ F2 H2 e2 rfl⟩
theorem ev_if {b : Bool} (h : EvT K σ F t b) (h1 : b = true → Ev K σ F ta x) (h2 : b = false → Ev K σ F tb x) : Ev K σ F (tIf t ta tb) x := fun F1 H1 e s Q q => h F1 H1 e s _ fun F2 H2 e2 => by
  cases b with
  | true =>
    show ta σ H2 Q
    exact h1 rfl F2 H2 (e.trans e2.fF) e2.sub Q fun w F3 H3 e3 r3 => q w F3 H3 (e2.trans e3) r3
  | false =>
    show tb σ H2 Q
    exact h2 rfl F2 H2 (e.trans e2.fF) e2.sub Q fun w F3 H3 e3 r3 => q w F3 H3 (e2.trans e3) r3
/-! ### tests -/
theorem et_test {b : Bool} (h : Ev K σ F te b) : EvT K σ F (tTest te) b := fun F1 H1 e s Q q => h F1 H1 e s _ fun v F2 H2 e2 r2 => ⟨b, r2, q F2 H2 e2⟩
theorem et_B {b : Bool} (h : Ev K σ F te b) : EvT K σ F (tB te) b := fun F1 H1 e s Q q => h F1 H1 e s _ fun v F2 H2 e2 r2 => ⟨b, r2, q F2 H2 e2⟩
theorem et_and {a b : Bool} (h1 : EvT K σ F t a) (h2 : a = true → EvT K σ F u b) : EvT K σ F (tAnd t u) (a && b) := fun F1 H1 e s Q q => h1 F1 H1 e s _ fun F2 H2 e2 => by
  cases a with
  | true =>
    show u σ H2 Q
    exact h2 rfl F2 H2 (e.trans e2.fF) e2.sub Q fun F3 H3 e3 => q F3 H3 (e2.trans e3)
  | false =>
    show Q false H2
    exact q F2 H2 e2
theorem et_or {a b : Bool} (h1 : EvT K σ F t a) (h2 : a = false → EvT K σ F u b) : EvT K σ F (tOr t u) (a || b) := fun F1 H1 e s Q q => h1 F1 H1 e s _ fun F2 H2 e2 => by
  cases a with
  | true =>
    show Q true H2
    exact q F2 H2 e2
  | false =>
    show u σ H2 Q
    exact h2 rfl F2 H2 (e.trans e2.fF) e2.sub Q fun F3 H3 e3 => q F3 H3 (e2.trans e3)
theorem et_not {a : Bool} (h1 : EvT K σ F t a) : EvT K σ F (tNot t) (!a) := fun F1 H1 e s Q q => h1 F1 H1 e s _ fun F2 H2 e2 => q F2 H2 e2
theorem et_yes : EvT K σ F tYes true := fun F1 H1 _ s Q q => q F1 H1 (Ext.refl s)

/-! ### lists and tuples -/
theorem ev_len {l : List α} (ha : Ev K σ F ta l) : Ev K σ F (tCB (fun xs H Q => ∃ p ys, xs = [.ref p] ∧ (SqL K H p ys ∨ SqT K H p ys) ∧ Q (.int ys.length) H) (tCons ta tNil)) (l.length : Int) :=
  ev_cb (el_cons ha el_nil) fun F H vs e hv Q q => by
    cases hv with
    | cons h1 h2 =>
      cases h2
      obtain ⟨a, ys, rfl, h3, h4⟩ := h1
      exact ⟨a, ys, rfl, .inl (sqL_of (e _ _ h3)), q _ F H (Ext.refl e) (congrArg (fun n : Nat => V.int n) h4.length)⟩
theorem ev_lenF {l : Frz} (ha : Ev K σ F ta l) : Ev K σ F (tCB (fun xs H Q => ∃ p ys, xs = [.ref p] ∧ (SqL K H p ys ∨ SqT K H p ys) ∧ Q (.int ys.length) H) (tCons ta tNil)) (l.l.length : Int) :=
  ev_cb (el_cons ha el_nil) fun F H vs e hv Q q => by
    cases hv with
    | cons h1 h2 =>
      cases h2
      obtain ⟨a, rfl, h3⟩ := h1
      exact ⟨a, _, rfl, .inl (e.sqL h3), q _ F H (Ext.refl e) (congrArg (fun n : Nat => V.int n) (List.length_map _))⟩
theorem en_list {l : List α} (ha : Ev K σ F ta l) : EvN K σ F (tCB (fun xs H Q => ∃ p ys, xs = [.ref p] ∧ (SqL K H p ys ∨ SqT K H p ys) ∧ ∀ l, H l = none → Q (.ref l) (upd H l (.lst ys))) (tCons ta tNil)) l :=
  en_cb (el_cons ha el_nil) fun F H vs e hv Q q => by
    cases hv with
    | cons h1 h2 =>
      cases h2
      obtain ⟨a, ys, rfl, h3, h4⟩ := h1
      exact ⟨a, ys, rfl, .inl (sqL_of (e _ _ h3)), fun p hp => q p ys F _ (Ext.newM e hp) hp (e.none hp) upd_same h4⟩
theorem en_lst {t : TA} {ds : List Dat} {l : List α} (h : EvL K σ F t ds) (hl : ds.length ≤ 1000) (hd : ∀ F vs, All2 (repD K F) vs ds → All2 (rep K F) vs l) : EvN K σ F (tLst t) l := fun F1 H1 a b Q q =>
  h F1 H1 a b _ fun vs F2 H2 e2 r2 => ⟨by rw [r2.length]; exact Nat.le_trans hl (by decide), fun p hp => q p vs F2 _ (e2.trans (Ext.newM e2.sub hp)) (e2.hH.none hp) (e2.sub.none hp) upd_same (hd F2 vs r2)⟩
theorem en_nil : EvN K σ F (tLst tNil) ([] : List α) := en_lst el_nil (by decide) fun F vs h => by cases h; exact .nil
theorem en_one (h : Ev K σ F ta x) : EvN K σ F (tLst (tCons ta tNil)) [x] := en_lst (el_cons h el_nil) (by decide : 1 ≤ 1000) fun F vs h => by
  cases h with
  | cons h1 h2 => cases h2; exact .one h1
theorem en_two {x y : α} (h : Ev K σ F ta x) (h' : Ev K σ F tb y) : EvN K σ F (tLst (tCons ta (tCons tb tNil))) [x, y] := en_lst (el_cons h (el_cons h' el_nil)) (by decide : 2 ≤ 1000) fun F vs h => by
  cases h with
  | cons h1 h2 =>
    cases h2 with
    | cons h2 h3 => cases h3; exact .cons h1 (.one h2)
theorem en_three {tc : TE} {x y z : α} (h : Ev K σ F ta x) (h' : Ev K σ F tb y) (h'' : Ev K σ F tc z) : EvN K σ F (tLst (tCons ta (tCons tb (tCons tc tNil)))) [x, y, z] := en_lst (el_cons h (el_cons h' (el_cons h'' el_nil))) (by decide : 3 ≤ 1000) fun F vs h => by
  cases h with
  | cons h1 h2 =>
    cases h2 with
    | cons h2 h3 =>
      cases h3 with
      | cons h3 h4 => cases h4; exact .cons h1 (.cons h2 (.one h3))
theorem ev_tupG {t : TA} {ds : List Dat} (h : EvL K σ F t ds) (hl : ds.length ≤ 1000) (hd : ∀ F vs a, F a = some (.tup vs) → All2 (repD K F) vs ds → rep K F (.ref a) x) : Ev K σ F (tTup t) x := fun F1 H1 a b Q q =>
  h F1 H1 a b _ fun vs F2 H2 e2 r2 => ⟨by rw [r2.length]; exact Nat.le_trans hl (by decide), fun p hp => q _ _ _ (e2.trans (Ext.new e2.sub hp)) (hd _ vs p upd_same (r2.imp fun _ _ => repD_mono (Ex.new (e2.sub.none hp))))⟩
theorem ev_pair (h : Ev K σ F ta x) (h' : Ev K σ F tb y) : Ev K σ F (tTup (tCons ta (tCons tb tNil))) (x, y) := ev_tupG (el_cons h (el_cons h' el_nil)) (by decide : 2 ≤ 1000) fun F vs a ha hv => by
  cases hv with
  | cons h1 h2 =>
    cases h2 with
    | cons h2 h3 => cases h3; exact ⟨a, _, _, rfl, ha, h1, h2⟩
theorem ev_t3 {tc : TE} (h : Ev K σ F ta x) (h' : Ev K σ F tb y) (h'' : Ev K σ F tc z) : Ev K σ F (tTup (tCons ta (tCons tb (tCons tc tNil)))) (R.T3.mk x y z) :=
  ev_tupG (el_cons h (el_cons h' (el_cons h'' el_nil))) (by decide : 3 ≤ 1000) fun F vs a ha hv => by
    cases hv with
    | cons h1 h2 =>
      cases h2 with
      | cons h2 h3 =>
        cases h3 with
        | cons h3 h4 => cases h4; exact ⟨a, _, _, _, rfl, ha, h1, h2, h3⟩
theorem ev_t4 {δ : Type} [Rep δ] {w : δ} {tc td : TE} (h : Ev K σ F ta x) (h' : Ev K σ F tb y) (h'' : Ev K σ F tc z) (h3 : Ev K σ F td w) : Ev K σ F (tTup (tCons ta (tCons tb (tCons tc (tCons td tNil))))) (R.T4.mk x y z w) :=
  ev_tupG (el_cons h (el_cons h' (el_cons h'' (el_cons h3 el_nil)))) (by decide : 4 ≤ 1000) fun F vs a ha hv => by
    cases hv with
    | cons h1 h2 =>
      cases h2 with
      | cons h2 h3 =>
        cases h3 with
        | cons h3 h4 =>
          cases h4 with
          | cons h4 h5 => cases h5; exact ⟨a, _, _, _, _, rfl, ha, h1, h2, h3, h4⟩
/-- xs + ys -/
theorem en_cat {l m : List α} (ha : Ev K σ F ta l) (hb : Ev K σ F tb m) (hz : l.length + m.length ≤ 16777216) : EvN K σ F (tOp rCat ta tb) (l ++ m) := fun F1 H1 a b Q q =>
  ha F1 H1 a b _ fun v F2 H2 e2 ⟨p1, vs, ev, hv, av⟩ => hb F2 H2 (a.trans e2.fF) e2.sub _ fun w F3 H3 e3 ⟨p2, ws, ew, hw, aw⟩ =>
    ⟨p1, p2, vs, ws, ev, ew, e3.sub _ _ (e3.fF _ _ hv), e3.sub _ _ hw, by rw [av.length, aw.length]; exact hz, fun p hp =>
      q p (vs ++ ws) F3 _ ((e2.trans e3).trans (Ext.newM e3.sub hp)) ((e2.trans e3).hH.none hp) (e3.sub.none hp) upd_same ((av.imp fun _ _ => Rep.mono e3.fF).append aw)⟩
/-- xs[i] -/
theorem all2_ixN {R : V → α → Prop} {vs : List V} {l : List α} {i : Int} (h : All2 R vs l) (e : atI l i = some x) : ∃ v, atI vs i = some v ∧ R v x := by
  unfold atI at e ⊢
  rw [h.length]
  cases q : ixN l.length i with
  | none =>
    rw [q] at e
    cases e
  | some j =>
    rw [q] at e
    exact h.get e
theorem ev_ix {l : List α} {i : Int} (ha : Ev K σ F ta l) (hb : Ev K σ F tb i) (h : atI l i = some x) : Ev K σ F (tOp (rIxL K) ta tb) x := ev_op ha hb fun F H v w e ⟨p, vs, ev, hv, av⟩ hw Q q => by
  obtain ⟨s, hs, rs⟩ := all2_ixN av h
  exact ⟨p, vs, i, s, ev, hw, sqL_of (e _ _ hv), hs, q _ F H (Ext.refl e) rs⟩
theorem ev_ixF {l : Frz} {i n : Int} (ha : Ev K σ F ta l) (hb : Ev K σ F tb i) (h : atI l.l i = some n) : Ev K σ F (tOp (rIxL K) ta tb) n := ev_op ha hb fun F H v w e ⟨p, ev, hv⟩ hw Q q => by
  obtain ⟨s, hs, rs⟩ := all2_ixN (all2_ints (K := K) (F := F) l.l) h
  exact ⟨p, _, i, s, ev, hw, e.sqL hv, hs, q _ F H (Ext.refl e) rs⟩
theorem atI_nat' {l : List α} {i : Int} (h0 : 0 ≤ i) (h : l[i.toNat]? = some x) : atI l i = some x := by
  obtain ⟨n, rfl⟩ : ∃ n : Nat, i = n := ⟨i.toNat, by omega⟩
  exact atI_nat h
theorem atI_end {l : List α} (h : l[l.length - 1]? = some x) : atI l (-1) = some x := by
  have hl : l.length - 1 < l.length := (List.getElem?_eq_some_iff.mp h).1
  unfold atI ixN
  rw [if_neg (by omega), if_pos (by omega), show ((-1 : Int) + (l.length : Int)).toNat = l.length - 1 by omega]
  exact h
/-- c[0], c[1], c[2] of a tuple of three -/
theorem ev_t3a {s : R.T3 α β γ} {te : TE} (ha : Ev K σ F ta s) (hb : Ev K σ F te (0 : Int)) : Ev K σ F (tOp (rIxT K) ta te) s.a := ev_op ha hb fun F H v w e ⟨p, v1, v2, v3, ev, hv, r1, r2, r3⟩ hw Q q =>
  ⟨p, _, 0, v1, ev, hw, sqT_of (e _ _ hv), rfl, q _ F H (Ext.refl e) r1⟩
theorem ev_t3b {s : R.T3 α β γ} {te : TE} (ha : Ev K σ F ta s) (hb : Ev K σ F te (1 : Int)) : Ev K σ F (tOp (rIxT K) ta te) s.b := ev_op ha hb fun F H v w e ⟨p, v1, v2, v3, ev, hv, r1, r2, r3⟩ hw Q q =>
  ⟨p, _, 1, v2, ev, hw, sqT_of (e _ _ hv), rfl, q _ F H (Ext.refl e) r2⟩
theorem ev_t3c {s : R.T3 α β γ} {te : TE} (ha : Ev K σ F ta s) (hb : Ev K σ F te (2 : Int)) : Ev K σ F (tOp (rIxT K) ta te) s.c := ev_op ha hb fun F H v w e ⟨p, v1, v2, v3, ev, hv, r1, r2, r3⟩ hw Q q =>
  ⟨p, _, 2, v3, ev, hw, sqT_of (e _ _ hv), rfl, q _ F H (Ext.refl e) r3⟩
/-- an item's kind, its number, a table's cells -/
theorem ev_kind {s : R.Item} {te : TE} (ha : Ev K σ F ta s) (hb : Ev K σ F te (0 : Int)) : Ev K σ F (tOp (rIxT K) ta te) (R.kind s) := by
  cases s with
  | head l t => exact ev_t3a (s := R.T3.mk (0 : Int) l t) ha hb
  | para t => exact ev_t3a (s := R.T3.mk (1 : Int) (0 : Int) t) ha hb
  | tab n cs => exact ev_t3a (s := R.T3.mk (2 : Int) n cs) ha hb
  | plot h co => exact ev_t3a (s := R.T3.mk (3 : Int) h co) ha hb
  | check p t => exact ev_t3a (s := R.T3.mk (4 : Int) p t) ha hb
  | bars cs => exact ev_t3a (s := R.T3.mk (5 : Int) (0 : Int) cs) ha hb
theorem ev_tabN {s : R.Item} {te : TE} (hs : R.kind s = 2) (ha : Ev K σ F ta s) (hb : Ev K σ F te (1 : Int)) : Ev K σ F (tOp (rIxT K) ta te) (R.columnsOf s) := by
  cases s with
  | tab n cs => exact ev_t3b (s := R.T3.mk (2 : Int) n cs) ha hb
  | head l t => exact absurd (show (0 : Int) = 2 from hs) (by decide)
  | para t => exact absurd (show (1 : Int) = 2 from hs) (by decide)
  | plot h co => exact absurd (show (3 : Int) = 2 from hs) (by decide)
  | check p t => exact absurd (show (4 : Int) = 2 from hs) (by decide)
  | bars cs => exact absurd (show (5 : Int) = 2 from hs) (by decide)
theorem ev_tabC {s : R.Item} {te : TE} (hs : R.kind s = 2) (ha : Ev K σ F ta s) (hb : Ev K σ F te (2 : Int)) : Ev K σ F (tOp (rIxT K) ta te) (R.cellsOf s) := by
  cases s with
  | tab n cs => exact ev_t3c (s := R.T3.mk (2 : Int) n cs) ha hb
  | head l t => exact absurd (show (0 : Int) = 2 from hs) (by decide)
  | para t => exact absurd (show (1 : Int) = 2 from hs) (by decide)
  | plot h co => exact absurd (show (3 : Int) = 2 from hs) (by decide)
  | check p t => exact absurd (show (4 : Int) = 2 from hs) (by decide)
  | bars cs => exact absurd (show (5 : Int) = 2 from hs) (by decide)

/-! ### slices -/
def cut (l : List α) (lo hi : Option Int) : List α := (l.drop (HT.sIx l.length 0 lo)).take (HT.sIx l.length l.length hi - HT.sIx l.length 0 lo)
theorem cutV_all2 {R : V → α → Prop} {vs : List V} {l : List α} (h : All2 R vs l) (lo hi : Option Int) : All2 R (cutV vs lo hi) (cut l lo hi) := by
  unfold cutV cut
  rw [h.length]
  exact (h.drop _).take _
theorem eo_none : EvO K σ F tNoPart none := fun F1 H1 _ s Q q => q F1 H1 (Ext.refl s)
theorem eo_some {i : Int} (h : Ev K σ F te i) : EvO K σ F (tPart te) (some i) := fun F1 H1 a s Q q => h F1 H1 a s _ fun v F2 H2 e2 r2 => ⟨i, r2, q F2 H2 e2⟩
theorem en_cut {tl th : TO} {l : List α} {lo hi : Option Int} (h : Ev K σ F te l) (h1 : EvO K σ F tl lo) (h2 : EvO K σ F th hi) : EvN K σ F (tSl (rSlL K) te tl th) (cut l lo hi) := fun F1 H1 a s Q q =>
  h F1 H1 a s _ fun v F2 H2 e2 ⟨p, vs, ev, hv, av⟩ => h1 F2 H2 (a.trans e2.fF) e2.sub _ fun F3 H3 e3 => h2 F3 H3 ((a.trans e2.fF).trans e3.fF) e3.sub _ fun F4 H4 e4 =>
    ⟨p, vs, ev, sqL_of (e4.hH _ _ (e3.hH _ _ (e2.sub _ _ hv))), fun b hb => q b _ F4 _ (((e2.trans e3).trans e4).trans (Ext.newM e4.sub hb)) (((e2.trans e3).trans e4).hH.none hb) (e4.sub.none hb) upd_same
      (cutV_all2 (av.imp fun _ _ => Rep.mono (e3.fF.trans e4.fF)) lo hi)⟩
theorem en_cutF {tl th : TO} {l : Frz} {lo hi : Option Int} (h : Ev K σ F te l) (h1 : EvO K σ F tl lo) (h2 : EvO K σ F th hi) : EvN K σ F (tSl (rSlL K) te tl th) (cut l.l lo hi) := fun F1 H1 a s Q q =>
  h F1 H1 a s _ fun v F2 H2 e2 ⟨p, ev, hv⟩ => h1 F2 H2 (a.trans e2.fF) e2.sub _ fun F3 H3 e3 => h2 F3 H3 ((a.trans e2.fF).trans e3.fF) e3.sub _ fun F4 H4 e4 =>
    ⟨p, _, ev, Ex.sqL ((e2.sub.trans e3.hH).trans e4.hH) hv, fun b hb => q b _ F4 _ (((e2.trans e3).trans e4).trans (Ext.newM e4.sub hb)) (((e2.trans e3).trans e4).hH.none hb) (e4.sub.none hb) upd_same
      (cutV_all2 (all2_ints l.l) lo hi)⟩
theorem sIx_to {n d : Nat} {j : Int} (h : 0 ≤ j) : HT.sIx n d (some j) = min j.toNat n := by
  obtain ⟨k, rfl⟩ : ∃ k : Nat, j = k := ⟨j.toNat, by omega⟩
  rw [HT.sIx_nat]
  rfl
theorem sIx_neg {n d : Nat} {j : Int} (h : j < 0) : HT.sIx n d (some j) = (j + (n : Int)).toNat := if_pos h
theorem cut_to {l : List α} {j : Int} (h : 0 ≤ j) : cut l none (some j) = l.take j.toNat := by
  unfold cut
  rw [sIx_to h, HT.sIx_none, Nat.sub_zero, List.drop_zero]
  by_cases c : j.toNat ≤ l.length
  · rw [Nat.min_eq_left c]
  · rw [Nat.min_eq_right (by omega), List.take_of_length_le (Nat.le_refl _), List.take_of_length_le (by omega)]
theorem cut_from {l : List α} {i : Int} (h : 0 ≤ i) : cut l (some i) none = l.drop i.toNat := by
  unfold cut
  rw [sIx_to h, HT.sIx_none, List.take_of_length_le (by rw [List.length_drop]; exact Nat.le_refl _)]
  by_cases c : i.toNat ≤ l.length
  · rw [Nat.min_eq_left c]
  · rw [Nat.min_eq_right (by omega), List.drop_of_length_le (Nat.le_refl _), List.drop_of_length_le (by omega)]
theorem cut_mid {l : List α} {i j : Int} (h : 0 ≤ i) (h' : 0 ≤ j) : cut l (some i) (some j) = (l.drop i.toNat).take (j.toNat - i.toNat) := by
  unfold cut
  rw [sIx_to h, sIx_to h']
  by_cases c : i.toNat ≤ l.length
  · rw [Nat.min_eq_left c]
    by_cases d : j.toNat ≤ l.length
    · rw [Nat.min_eq_left d]
    · rw [Nat.min_eq_right (show l.length ≤ j.toNat by omega), List.take_of_length_le (by rw [List.length_drop]; exact Nat.le_refl _), List.take_of_length_le (by rw [List.length_drop]; omega)]
  · rw [Nat.min_eq_right (show l.length ≤ i.toNat by omega), List.drop_of_length_le (Nat.le_refl _), List.drop_of_length_le (show l.length ≤ i.toNat by omega)]
    simp
theorem cut_all_but {l : List α} : cut l none (some (-1)) = l.dropLast := by
  unfold cut
  rw [sIx_neg (by decide), HT.sIx_none, List.drop_zero, Nat.sub_zero, List.dropLast_eq_take]
  congr 1
  omega
theorem cut_from_but {l : List α} {i : Int} (h : 0 ≤ i) : cut l (some i) (some (-1)) = (l.drop i.toNat).dropLast := by
  unfold cut
  rw [sIx_neg (by decide), sIx_to h, List.dropLast_eq_take, List.length_drop]
  by_cases c : i.toNat ≤ l.length
  · rw [Nat.min_eq_left c]
    congr 1
    omega
  · rw [Nat.min_eq_right (by omega), List.drop_of_length_le (Nat.le_refl _), List.drop_of_length_le (by omega)]
    simp
end
end Ty
end
section
set_option Elab.async false
set_option linter.all false
set_option maxRecDepth 100000
set_option maxHeartbeats 2000000
/-! The slots as data; statements, loops, comprehensions, calls. -/
namespace Ty
open PySem PySem.Spec PyProof.Rows L2
open Rep (rep)
structure MDat where
  {α : Type}
  [inst : Rep α]
  l : List α
inductive Slot where
  | any
  | val (d : Dat)
  | own (p : Addr) (d : MDat)
abbrev Vl {α : Type} [Rep α] (x : α) : Slot := .val ⟨x⟩
abbrev Mu {α : Type} [Rep α] (p : Addr) (l : List α) : Slot := .own p ⟨l⟩
def frz : Slot → Slot
  | .any => .any
  | .val d => .val d
  | .own _ d => .val (@Dat.mk (List d.α) (@instL d.α d.inst) d.l)
/-- what is known of the slots, over a part of the heap that stays -/
structure Vw (K : Fg) (σ : L2.St) (F : Hp) (Γ : List Slot) : Prop where
  len : Γ.length = σ.length
  val : ∀ (i : Nat) (d : Dat), Γ[i]? = some (Slot.val d) → ∃ v, σ[i]? = some (some v) ∧ repD K F v d
structure Bs where
  F0 : Hp
  H0 : Hp
  G : Hp
structure Ok (K : Fg) (B : Bs) (F H : Hp) (σ : L2.St) (Γ : List Slot) : Prop where
  ext : Ext B.F0 B.H0 F H
  anc : Ex B.G F
  len : Γ.length = σ.length
  val : ∀ (i : Nat) (d : Dat), Γ[i]? = some (Slot.val d) → ∃ v, σ[i]? = some (some v) ∧ repD K F v d
  own : ∀ (i : Nat) (p : Addr) (d : MDat), Γ[i]? = some (Slot.own p d) → σ[i]? = some (some (.ref p)) ∧ B.H0 p = none ∧ F p = none ∧ ∃ vs, H p = some (.lst vs) ∧ All2 (d.inst.rep K F) vs d.l
  apart : ∀ (i j : Nat) (p q : Addr) (a b : MDat), Γ[i]? = some (Slot.own p a) → Γ[j]? = some (Slot.own q b) → i ≠ j → p ≠ q
section
variable {K : Fg} {B : Bs} {F H F' H' : Hp} {σ : L2.St} {Γ : List Slot} {α β : Type}
theorem Vw.mono (e : Ex F F') (c : Vw K σ F Γ) : Vw K σ F' Γ := ⟨c.len, fun i d h => let ⟨v, h1, h2⟩ := c.val i d h; ⟨v, h1, repD_mono e h2⟩⟩
theorem Vw.v {inst : Rep α} {x : α} (c : Vw K σ F Γ) (i : Nat) (h : Γ[i]? = some (Slot.val (@Dat.mk α inst x))) : Ev K σ F (tVar i) x := by
  obtain ⟨v, h1, h2⟩ := c.val i _ h
  exact ev_var h1 h2
theorem Ok.c (st : Ok K B F H σ Γ) : Vw K σ F Γ := ⟨st.len, st.val⟩
theorem Ok.sub (st : Ok K B F H σ Γ) : Ex F H := st.ext.sub
/-- all of it, read over the whole heap -/
theorem Ok.h (st : Ok K B F H σ Γ) : Vw K σ H (Γ.map frz) := by
  refine ⟨by rw [List.length_map]; exact st.len, fun i d h => ?_⟩
  rw [List.getElem?_map] at h
  cases q : Γ[i]? with
  | none =>
    rw [q] at h
    cases h
  | some s =>
    rw [q] at h
    cases s with
    | any => cases h
    | val d' =>
      have e : d' = d := by
        injection h with h
        injection h
      subst e
      obtain ⟨v, h1, h2⟩ := st.val i _ q
      exact ⟨v, h1, repD_mono st.sub h2⟩
    | own p d' =>
      have e : (@Dat.mk (List d'.α) (@instL d'.α d'.inst) d'.l) = d := by
        injection h with h
        injection h
      subst e
      obtain ⟨h1, _, _, vs, h2, h3⟩ := st.own i p d' q
      exact ⟨_, h1, p, vs, rfl, h2, h3.imp fun _ _ => d'.inst.mono st.sub⟩
theorem Ok.step (st : Ok K B F H σ Γ) (e : Ext F H F' H') : Ok K B F' H' σ Γ :=
  ⟨st.ext.trans e, st.anc.trans e.fF, st.len, fun i d h => let ⟨v, h1, h2⟩ := st.val i d h; ⟨v, h1, repD_mono e.fF h2⟩,
    fun i p d h => let ⟨h1, h2, h3, vs, h4, h5⟩ := st.own i p d h
      ⟨h1, h2, e.fresh p h3 (by rw [h4]; exact fun z => nomatch z), vs, e.hH _ _ h4, h5.imp fun _ _ => d.inst.mono e.fF⟩, st.apart⟩
/-- the heap grows by what nobody asks for -/
theorem Ok.heap (st : Ok K B F H σ Γ) (e : Ex H H') : Ok K B F H' σ Γ := st.step ⟨Ex.refl F, e, st.sub.trans e, fun _ h _ => h⟩
theorem Ok.set [Rep α] {x : α} {v : V} (st : Ok K B F H σ Γ) (i : Nat) (h : rep K F v x) : Ok K B F H (σ.set i (some v)) (Γ.set i (Vl x)) := by
  refine ⟨st.ext, st.anc, by rw [List.length_set, List.length_set]; exact st.len, fun j d hj => ?_, fun j p d hj => ?_, fun j k p q a b hj hk ne => ?_⟩
  · by_cases c : i = j
    · subst c
      rw [List.getElem?_set] at hj
      rw [if_pos rfl] at hj
      split at hj
      · rename_i hl
        injection hj with hj
        injection hj with hj
        subst hj
        refine ⟨v, ?_, h⟩
        rw [List.getElem?_set, if_pos rfl, if_pos (by rw [← st.len]; exact hl)]
      · cases hj
    · rw [List.getElem?_set_ne c] at hj ⊢
      exact st.val j d hj
  · by_cases c : i = j
    · subst c
      rw [List.getElem?_set, if_pos rfl] at hj
      split at hj
      · injection hj with hj
        cases hj
      · cases hj
    · rw [List.getElem?_set_ne c] at hj ⊢
      exact st.own j p d hj
  · have hj' : i ≠ j := fun c => by
      subst c
      rw [List.getElem?_set, if_pos rfl] at hj
      split at hj
      · injection hj with hj
        cases hj
      · cases hj
    have hk' : i ≠ k := fun c => by
      subst c
      rw [List.getElem?_set, if_pos rfl] at hk
      split at hk
      · injection hk with hk
        cases hk
      · cases hk
    rw [List.getElem?_set_ne hj'] at hj
    rw [List.getElem?_set_ne hk'] at hk
    exact st.apart j k p q a b hj hk ne
theorem Ok.setM [Rep α] {l : List α} {p : Addr} {vs : List V} (st : Ok K B F H σ Γ) (i : Nat) (h0 : B.H0 p = none) (h1 : F p = none) (h2 : H p = some (.lst vs)) (h3 : All2 (rep K F) vs l)
    (h4 : ∀ (j : Nat) (q : Addr) (b : MDat), Γ[j]? = some (Slot.own q b) → p ≠ q) : Ok K B F H (σ.set i (some (.ref p))) (Γ.set i (Mu p l)) := by
  refine ⟨st.ext, st.anc, by rw [List.length_set, List.length_set]; exact st.len, fun j d hj => ?_, fun j q d hj => ?_, fun j k q r a b hj hk ne => ?_⟩
  · by_cases c : i = j
    · subst c
      rw [List.getElem?_set, if_pos rfl] at hj
      split at hj
      · injection hj with hj
        cases hj
      · cases hj
    · rw [List.getElem?_set_ne c] at hj ⊢
      exact st.val j d hj
  · by_cases c : i = j
    · subst c
      rw [List.getElem?_set, if_pos rfl] at hj
      split at hj
      · rename_i hl
        injection hj with hj
        injection hj with e1 e2
        subst e1
        subst e2
        refine ⟨?_, h0, h1, vs, h2, h3⟩
        rw [List.getElem?_set, if_pos rfl, if_pos (by rw [← st.len]; exact hl)]
      · cases hj
    · rw [List.getElem?_set_ne c] at hj ⊢
      exact st.own j q d hj
  · by_cases cj : i = j
    · subst cj
      rw [List.getElem?_set, if_pos rfl] at hj
      rw [List.getElem?_set_ne ne] at hk
      split at hj
      · injection hj with hj
        injection hj with e1 e2
        subst e1
        exact h4 k r b hk
      · cases hj
    · rw [List.getElem?_set_ne cj] at hj
      by_cases ck : i = k
      · subst ck
        rw [List.getElem?_set, if_pos rfl] at hk
        split at hk
        · injection hk with hk
          injection hk with e1 e2
          subst e1
          exact (h4 j q a hj).symm
        · cases hk
      · rw [List.getElem?_set_ne ck] at hk
        exact st.apart j k q r a b hj hk ne
/-- a change in place -/
theorem Ok.store [Rep α] {l : List α} {p : Addr} {d : MDat} {vs : List V} (st : Ok K B F H σ Γ) (i : Nat) (hi : Γ[i]? = some (Slot.own p d)) (h3 : All2 (rep K F) vs l) : Ok K B F (upd H p (.lst vs)) σ (Γ.set i (Mu p l)) := by
  obtain ⟨g1, g2, g3, ws, g4, g5⟩ := st.own i p d hi
  refine ⟨st.ext.store g2 g3, st.anc, by rw [List.length_set]; exact st.len, fun j d hj => ?_, fun j q d hj => ?_, fun j k q r a b hj hk ne => ?_⟩
  · by_cases c : i = j
    · subst c
      rw [List.getElem?_set, if_pos rfl] at hj
      split at hj
      · injection hj with hj
        cases hj
      · cases hj
    · rw [List.getElem?_set_ne c] at hj
      exact st.val j d hj
  · by_cases c : i = j
    · subst c
      rw [List.getElem?_set, if_pos rfl] at hj
      split at hj
      · injection hj with hj
        injection hj with e1 e2
        subst e1
        subst e2
        exact ⟨g1, g2, g3, vs, upd_same, h3⟩
      · cases hj
    · rw [List.getElem?_set_ne c] at hj
      obtain ⟨k1, k2, k3, us, k4, k5⟩ := st.own j q d hj
      refine ⟨k1, k2, k3, us, ?_, k5⟩
      rw [upd_ne (st.apart j i q p _ _ hj hi fun z => c z.symm)]
      exact k4
  · have key : ∀ (j : Nat) (q : Addr) (a : MDat), (Γ.set i (Mu p l))[j]? = some (Slot.own q a) → ∃ b, Γ[j]? = some (Slot.own q b) := fun j q a hj => by
      by_cases c : i = j
      · subst c
        rw [List.getElem?_set, if_pos rfl] at hj
        split at hj
        · injection hj with hj
          injection hj with e1 e2
          subst e1
          exact ⟨d, hi⟩
        · cases hj
      · rw [List.getElem?_set_ne c] at hj
        exact ⟨a, hj⟩
    obtain ⟨a', ha⟩ := key j q a hj
    obtain ⟨b', hb⟩ := key k r b hk
    exact st.apart j k q r a' b' ha hb ne
/-- from now on it stays -/
theorem Ok.freeze {p : Addr} {d : MDat} (st : Ok K B F H σ Γ) (i : Nat) (hi : Γ[i]? = some (Slot.own p d)) : ∃ F', Ok K B F' H σ (Γ.set i (Slot.val (@Dat.mk (List d.α) (@instL d.α d.inst) d.l))) := by
  obtain ⟨g1, g2, g3, ws, g4, g5⟩ := st.own i p d hi
  have e : Ex F (upd F p (.lst ws)) := Ex.new g3
  refine ⟨upd F p (.lst ws), st.ext.freeze g2 g3 g4, st.anc.trans e, by rw [List.length_set]; exact st.len, fun j d' hj => ?_, fun j q d' hj => ?_, fun j k q r a b hj hk ne => ?_⟩
  · by_cases c : i = j
    · subst c
      rw [List.getElem?_set, if_pos rfl] at hj
      split at hj
      · injection hj with hj
        injection hj with hj
        subst hj
        exact ⟨_, g1, p, ws, rfl, upd_same, g5.imp fun _ _ => d.inst.mono e⟩
      · cases hj
    · rw [List.getElem?_set_ne c] at hj
      obtain ⟨v, h1, h2⟩ := st.val j d' hj
      exact ⟨v, h1, repD_mono e h2⟩
  · have c : i ≠ j := fun c => by
      subst c
      rw [List.getElem?_set, if_pos rfl] at hj
      split at hj
      · injection hj with hj
        cases hj
      · cases hj
    rw [List.getElem?_set_ne c] at hj
    obtain ⟨k1, k2, k3, us, k4, k5⟩ := st.own j q d' hj
    refine ⟨k1, k2, ?_, us, k4, k5.imp fun _ _ => d'.inst.mono e⟩
    rw [upd_ne (st.apart j i q p _ _ hj hi fun z => c z.symm)]
    exact k3
  · have key : ∀ (j : Nat) (q : Addr) (a : MDat), (Γ.set i (Slot.val (@Dat.mk (List d.α) (@instL d.α d.inst) d.l)))[j]? = some (Slot.own q a) → Γ[j]? = some (Slot.own q a) := fun j q a hj => by
      have c : i ≠ j := fun c => by
        subst c
        rw [List.getElem?_set, if_pos rfl] at hj
        split at hj
        · injection hj with hj
          cases hj
        · cases hj
      rw [List.getElem?_set_ne c] at hj
      exact hj
    exact st.apart j k q r a b (key j q a hj) (key k r b hk) ne
end

/-! ### statements -/
section
variable {K : Fg} {B : Bs} {F H : Hp} {σ : L2.St} {Γ : List Slot} {α β γ : Type} [Rep α] [Rep β] [Rep γ] {D : Ends} {te ti : TE} {t : TT} {tu tw : TS} {x : α}
theorem Ok.at (st : Ok K B F H σ Γ) (h : Ev K σ F te x) : EvA K σ F H te x := h F H (Ex.refl F) st.sub
theorem Ok.atI {n : Int} (st : Ok K B F H σ Γ) (h : Ev K σ H te n) : EvA K σ F H te n := fun Q q => h H H (Ex.refl H) (Ex.refl H) Q fun v F' H' e r =>
  q v F H' ⟨Ex.refl F, e.hH, st.sub.trans e.hH, fun _ z _ => z⟩ r
theorem s_seq (h : tu { D with nx := tw D } σ H) : tSeq tu tw D σ H := h
theorem s_asg {i : Nat} (st : Ok K B F H σ Γ) (h : EvA K σ F H te x) (k : ∀ F' H' σ', Ok K B F' H' σ' (Γ.set i (Vl x)) → D.nx σ' H') : tAsg te (gName i) D σ H :=
  h _ fun v F' H' e r => k F' H' _ ((st.step e).set i r)
theorem s_newM {i : Nat} {l : List α} (st : Ok K B F H σ Γ) (h : EvN K σ F te l) (k : ∀ p F' H' σ', Ok K B F' H' σ' (Γ.set i (Mu p l)) → D.nx σ' H') : tAsg te (gName i) D σ H :=
  h F H (Ex.refl F) st.sub _ fun p vs F' H' e h0 h1 h2 h3 => k p F' H' _ ((st.step e).setM i (st.ext.hH.none h0) h1 h2 h3 fun j q b hj z => by
    obtain ⟨_, _, _, us, g, _⟩ := st.own j q b hj
    rw [← z, h0] at g
    cases g)
theorem s_if {b : Bool} (st : Ok K B F H σ Γ) (h : EvT K σ H t b) (h1 : b = true → ∀ F' H', Ok K B F' H' σ Γ → tu D σ H') (h2 : b = false → ∀ F' H', Ok K B F' H' σ Γ → tw D σ H') : tIfS t tu tw D σ H :=
  h H H (Ex.refl H) (Ex.refl H) _ fun F' H' e => by
    cases b with
    | true => exact h1 rfl F H' (st.heap e.hH)
    | false => exact h2 rfl F H' (st.heap e.hH)
/-- an if without an else: behind it the rest -/
theorem s_next {σ' : L2.St} {H' : Hp} (h : D.nx σ' H') : tNext D σ' H' := h
theorem s_ret (st : Ok K B F H σ Γ) (h : EvA K σ F H te x) (k : ∀ v F' H', Ext B.F0 B.H0 F' H' → rep K F' v x → D.rt v H') : tRet te D σ H := h _ fun v F' H' e r => k v F' H' (st.ext.trans e) r
theorem s_retN {l : List α} (st : Ok K B F H σ Γ) (h : EvN K σ F te l) (k : ∀ p vs F' H', Ext B.F0 B.H0 F' H' → B.H0 p = none → F' p = none → H' p = some (.lst vs) → All2 (rep K F') vs l → D.rt (.ref p) H') : tRet te D σ H :=
  h F H (Ex.refl F) st.sub _ fun p vs F' H' e h0 h1 h2 h3 => k p vs F' H' (st.ext.trans e) (st.ext.hH.none h0) h1 h2 h3
/-- xs.append(e) -/
theorem s_app {i : Nat} {p : Addr} {l : List α} (st : Ok K B F H σ Γ) (hi : Γ[i]? = some (Mu p l)) (h : EvA K σ F H te x) (hz : l.length < 16777216) (k : ∀ F' H', Ok K B F' H' σ (Γ.set i (Mu p (l ++ [x]))) → D.nx σ H') :
    tDrop (tBM K "list" rAppend (tVar i) (tCons te tNil)) D σ H := by
  obtain ⟨g1, g2, g3, vs, g4, g5⟩ := st.own i p _ hi
  refine ⟨.ref p, g1, .inl ⟨rfl, vs, sqL_of g4⟩, ?_⟩
  refine h _ fun v F' H' e r => ?_
  have st' := st.step e
  obtain ⟨k1, k2, k3, us, k4, k5⟩ := st'.own i p _ hi
  exact ⟨p, us, v, rfl, rfl, k4, by rw [k5.length]; exact hz, k F' _ (st'.store i hi (k5.append (.one r)))⟩
/-- xs.extend(ys) -/
theorem s_ext {i : Nat} {p : Addr} {l m : List α} (st : Ok K B F H σ Γ) (hi : Γ[i]? = some (Mu p l)) (h : EvA K σ F H te m) (hz : l.length + m.length ≤ 16777216) (k : ∀ F' H', Ok K B F' H' σ (Γ.set i (Mu p (l ++ m))) → D.nx σ H') :
    tDrop (tBM K "list" rExtend (tVar i) (tCons te tNil)) D σ H := by
  obtain ⟨g1, g2, g3, vs, g4, g5⟩ := st.own i p _ hi
  refine ⟨.ref p, g1, .inl ⟨rfl, vs, sqL_of g4⟩, ?_⟩
  refine h _ fun v F' H' e ⟨b, ws, ev, hv, av⟩ => ?_
  have st' := st.step e
  obtain ⟨k1, k2, k3, us, k4, k5⟩ := st'.own i p _ hi
  exact ⟨p, b, us, ws, rfl, by rw [ev], k4, e.sub _ _ hv, by rw [k5.length, av.length]; exact hz, k F' _ (st'.store i hi (k5.append av))⟩
/-- xs[j] = e -/
theorem s_setI {i : Nat} {p : Addr} {l : List α} {j : Int} (st : Ok K B F H σ Γ) (hi : Γ[i]? = some (Mu p l)) (h : EvA K σ F H te x) (hj : ∀ F' H', Ok K B F' H' σ Γ → EvA K σ F' H' ti j) (h0 : 0 ≤ j) (h1 : j < l.length)
    (k : ∀ F' H', Ok K B F' H' σ (Γ.set i (Mu p (l.set j.toNat x))) → D.nx σ H') : tAsg te (gSub (tVar i) ti rSetL) D σ H := by
  refine h _ fun v F' H' e r => ?_
  have st' := st.step e
  obtain ⟨g1, g2, g3, vs, g4, g5⟩ := st'.own i p _ hi
  refine ⟨.ref p, g1, ?_⟩
  refine hj F' H' st' _ fun w F2 H2 e2 r2 => ?_
  have st2 := st'.step e2
  obtain ⟨k1, k2, k3, us, k4, k5⟩ := st2.own i p _ hi
  refine ⟨p, us, j, j.toNat, rfl, r2, k4, ?_, k F2 _ (st2.store i hi (k5.set (Rep.mono e2.fF r) j.toNat))⟩
  have hl : us.length = l.length := k5.length
  unfold ixN
  rw [if_pos h0, if_pos (by rw [hl]; exact h1)]
end

/-! ### targets -/
section
variable {K : Fg} {α β γ δ : Type} [Rep α] [Rep β] [Rep γ] [Rep δ]
def Gt (K : Fg) (g : TG) (y : α) (up : List Slot → List Slot) : Prop := ∀ (B : Bs) (F H : Hp) (σ : L2.St) (Γ : List Slot) (v : V), Ok K B F H σ Γ → rep K F v y → ∀ Q : L2.St → Hp → Prop, (∀ σ', Ok K B F H σ' (up Γ) → Q σ' H) → g v σ H Q
theorem g_name {i : Nat} {y : α} : Gt K (gName i) y fun Γ => Γ.set i (Vl y) := fun B F H σ Γ v st r Q q => q _ (st.set i r)
theorem g_pair {i j : Nat} {y : α × β} : Gt K (gTup K 2 (gCons (gName i) (gCons (gName j) gNil))) y fun Γ => (Γ.set i (Vl y.1)).set j (Vl y.2) := fun B F H σ Γ v st ⟨a, v1, v2, ev, hv, r1, r2⟩ Q q =>
  ⟨a, _, ev, sqT_of (st.sub _ _ hv), rfl, v1, [v2], rfl, v2, [], rfl, rfl, q _ ((st.set i r1).set j r2)⟩
theorem g_t3 {i j k : Nat} {y : R.T3 α β γ} : Gt K (gTup K 3 (gCons (gName i) (gCons (gName j) (gCons (gName k) gNil)))) y fun Γ => ((Γ.set i (Vl y.a)).set j (Vl y.b)).set k (Vl y.c) := fun B F H σ Γ v st ⟨a, v1, v2, v3, ev, hv, r1, r2, r3⟩ Q q =>
  ⟨a, _, ev, sqT_of (st.sub _ _ hv), rfl, v1, [v2, v3], rfl, v2, [v3], rfl, v3, [], rfl, rfl, q _ (((st.set i r1).set j r2).set k r3)⟩
theorem g_t4 {i j k l : Nat} {y : R.T4 α β γ δ} : Gt K (gTup K 4 (gCons (gName i) (gCons (gName j) (gCons (gName k) (gCons (gName l) gNil))))) y fun Γ => (((Γ.set i (Vl y.a)).set j (Vl y.b)).set k (Vl y.c)).set l (Vl y.d) :=
  fun B F H σ Γ v st ⟨a, v1, v2, v3, v4, ev, hv, r1, r2, r3, r4⟩ Q q =>
  ⟨a, _, ev, sqT_of (st.sub _ _ hv), rfl, v1, [v2, v3, v4], rfl, v2, [v3, v4], rfl, v3, [v4], rfl, v4, [], rfl, rfl, q _ ((((st.set i r1).set j r2).set k r3).set l r4)⟩
theorem s_asgG {B : Bs} {F H : Hp} {σ : L2.St} {Γ : List Slot} {D : Ends} {te : TE} {y : α} {g : TG} {up : List Slot → List Slot} (st : Ok K B F H σ Γ) (h : EvA K σ F H te y) (hg : Gt K g y up) (k : ∀ F' H' σ', Ok K B F' H' σ' (up Γ) → D.nx σ' H') : tAsg te g D σ H :=
  h _ fun v F' H' e r => hg B F' H' σ Γ v (st.step e) r D.nx fun σ' st' => k F' H' σ' st'
end

/-! ### what is walked -/
section
variable {K : Fg} {β : Type} [Rep β]
structure Yl (K : Fg) (J : It) (F1 : Hp) (ys : List β) : Prop where
  go : ∀ i F H, Ex F1 F → Ex F H → i < ys.length → J.go i H
  yld : ∀ i F H v H', Ex F1 F → Ex F H → J.yld i H v H' → ∀ y, ys[i]? = some y → ∃ F', Ext F H F' H' ∧ rep K F' v y
  stop : ∀ i F H, Ex F1 F → Ex F H → ys.length ≤ i → J.stop i H
def EvI (K : Fg) (σ : L2.St) (F : Hp) (wi : TI) (ys : List β) : Prop := ∀ F1 H1, Ex F F1 → Ex F1 H1 → ∀ R : It → Hp → Prop, (∀ J F' H', Ext F1 H1 F' H' → Yl K J F' ys → R J H') → wi σ H1 R
end
section
variable {K : Fg} {σ : L2.St} {F : Hp} {α β : Type} [Rep α] [Rep β]
theorem ei_list {tl : TE} {l : List α} (h : Ev K σ F tl l) : EvI K σ F (iList K tl) l := fun F1 H1 a b R q => h F1 H1 a b _ fun v F2 H2 e2 ⟨p, vs, ev, hv, av⟩ =>
  ⟨p, ev, ⟨vs, sqL_of (e2.sub _ _ hv)⟩, q _ F2 H2 e2 ⟨fun i F' H' hF hH hi => by
      have hi' : i < vs.length := by rw [av.length]; exact hi
      exact ⟨vs, vs[i], sqL_of (hH _ _ (hF _ _ hv)), List.getElem?_eq_getElem hi'⟩,
    fun i F' H' v H'' hF hH ⟨e, f⟩ y hy => by
      subst e
      obtain ⟨w, hw, rw_⟩ := av.get hy
      have hs : SqL K H'' p vs := sqL_of (hH _ _ (hF _ _ hv))
      have e3 : v = w := Option.some.inj ((f vs hs).symm.trans hw)
      subst e3
      exact ⟨F', Ext.refl hH, Rep.mono hF rw_⟩,
    fun i F' H' hF hH hi => ⟨vs, sqL_of (hH _ _ (hF _ _ hv)), by rw [av.length]; exact hi⟩⟩⟩
theorem yl_rng {lo : Int} {n : Nat} {F1 : Hp} : Yl K (Itr lo n) F1 ((List.range n).map fun (i : Nat) => lo + (i : Int)) := by
  refine ⟨fun i F H _ _ hi => by rw [List.length_map, List.length_range] at hi; exact hi, fun i F H v H' _ hH ⟨e1, e2⟩ y hy => ?_, fun i F H _ _ hi => by rw [List.length_map, List.length_range] at hi; exact hi⟩
  subst e1
  rw [List.getElem?_map] at hy
  cases q : (List.range n)[i]? with
  | none => rw [q] at hy; cases hy
  | some k =>
    rw [q] at hy
    have e3 : i = k := by
      obtain ⟨h1, h2⟩ := List.getElem?_eq_some_iff.mp q
      rw [List.getElem_range] at h2
      exact h2
    subst e3
    have e4 := Option.some.inj hy
    subst e4
    exact ⟨F, Ext.refl hH, e2⟩
theorem ei_rng1 {ta : TE} {n : Int} (h : Ev K σ F ta n) (hn : -(2 ^ 62) ≤ n ∧ n < 2 ^ 62) : EvI K σ F (iRng1 (tCons ta tNil)) ((List.range n.toNat).map fun (i : Nat) => (i : Int)) := fun F1 H1 a b R q => h F1 H1 a b _ fun v F2 H2 e2 r2 =>
  ⟨n, by rw [show v = V.int n from r2], hn.1, hn.2, q _ F2 H2 e2 (by
    have z := yl_rng (K := K) (lo := 0) (n := n.toNat) (F1 := F2)
    have e : ((List.range n.toNat).map fun (i : Nat) => (0 : Int) + (i : Int)) = (List.range n.toNat).map fun (i : Nat) => (i : Int) := List.map_congr_left fun i _ => Int.zero_add _
    rw [e] at z
    exact z)⟩
theorem ei_rng2 {ta tb : TE} {m n : Int} (h : Ev K σ F ta m) (h' : Ev K σ F tb n) (hm : -(2 ^ 62) ≤ m ∧ m < 2 ^ 62) (hn : -(2 ^ 62) ≤ n ∧ n < 2 ^ 62) : EvI K σ F (iRng2 (tCons ta (tCons tb tNil))) ((List.range (n - m).toNat).map fun (i : Nat) => m + (i : Int)) :=
  fun F1 H1 a b R q => h F1 H1 a b _ fun v F2 H2 e2 r2 => h' F2 H2 (a.trans e2.fF) e2.sub _ fun w F3 H3 e3 r3 =>
  ⟨m, n, by rw [show v = V.int m from r2, show w = V.int n from r3], ⟨hm.1, hm.2, hn.1, hn.2⟩, q _ F3 H3 (e2.trans e3) yl_rng⟩
theorem yl_rngC {lo c : Int} {n : Nat} {F1 : Hp} : Yl K (Itc lo c n) F1 ((List.range n).map fun (i : Nat) => lo + (i : Int) * c) := by
  refine ⟨fun i F H _ _ hi => by rw [List.length_map, List.length_range] at hi; exact hi, fun i F H v H' _ hH ⟨e1, e2⟩ y hy => ?_, fun i F H _ _ hi => by rw [List.length_map, List.length_range] at hi; exact hi⟩
  subst e1
  rw [List.getElem?_map] at hy
  cases q : (List.range n)[i]? with
  | none => rw [q] at hy; cases hy
  | some k =>
    rw [q] at hy
    have e3 : i = k := by
      obtain ⟨h1, h2⟩ := List.getElem?_eq_some_iff.mp q
      rw [List.getElem_range] at h2
      exact h2
    subst e3
    have e4 := Option.some.inj hy
    subst e4
    exact ⟨F, Ext.refl hH, e2⟩
theorem ei_rng3 {ta tb tc : TE} {m n c : Int} {k : Nat} (h : Ev K σ F ta m) (h' : Ev K σ F tb n) (h'' : Ev K σ F tc c) (hr : RgC m n c k) : EvI K σ F (iRng3 (tCons ta (tCons tb (tCons tc tNil)))) ((List.range k).map fun (i : Nat) => m + (i : Int) * c) :=
  fun F1 H1 a b R q => h F1 H1 a b _ fun v F2 H2 e2 r2 => h' F2 H2 (a.trans e2.fF) e2.sub _ fun w F3 H3 e3 r3 => h'' F3 H3 ((a.trans e2.fF).trans e3.fF) e3.sub _ fun u F4 H4 e4 r4 =>
  ⟨m, n, c, k, by rw [show v = V.int m from r2, show w = V.int n from r3, show u = V.int c from r4], hr, q _ F4 H4 ((e2.trans e3).trans e4) yl_rngC⟩
theorem ei_enum {tl : TE} {l : List α} (h : Ev K σ F tl l) : EvI K σ F (iEnum K (tCons tl tNil)) (l.zipIdx.map fun p => ((p.2 : Int), p.1)) := fun F1 H1 a b R q => h F1 H1 a b _ fun v F2 H2 e2 ⟨p, vs, ev, hv, av⟩ =>
  ⟨p, vs, by rw [ev], sqL_of (e2.sub _ _ hv), q _ F2 H2 e2 ⟨fun i F' H' hF hH hi => by
      have hi' : i < vs.length := by rw [av.length]; simpa using hi
      exact ⟨vs, vs[i], sqL_of (hH _ _ (hF _ _ hv)), List.getElem?_eq_getElem hi'⟩,
    fun i F' H' v H'' hF hH ⟨T, x, ev', hT, eH, f⟩ y hy => by
      subst eH
      rw [List.getElem?_map, List.getElem?_zipIdx] at hy
      cases hz : l[i]? with
      | none => rw [hz] at hy; cases hy
      | some z =>
        rw [hz] at hy
        have e4 : ((i : Int), z) = y := by
          have := Option.some.inj hy
          rw [← this]
          simp
        subst e4
        obtain ⟨w, hw, rw_⟩ := av.get hz
        have hs : SqL K H' p vs := sqL_of (hH _ _ (hF _ _ hv))
        have e3 : x = w := Option.some.inj ((f vs hs).symm.trans hw)
        subst e3
        have e5 : Ex F' (upd F' T (.tup [.int (i : Nat), x])) := Ex.new (hH.none hT)
        exact ⟨_, Ext.new hH hT, T, _, _, ev', upd_same, rfl, Rep.mono (hF.trans e5) rw_⟩,
    fun i F' H' hF hH hi => ⟨vs, sqL_of (hH _ _ (hF _ _ hv)), by rw [av.length]; simpa using hi⟩⟩⟩
theorem ei_zip {ta tb : TE} {l : List α} {m : List β} (h : Ev K σ F ta l) (h' : Ev K σ F tb m) : EvI K σ F (iZip K (tCons ta (tCons tb tNil))) (l.zip m) := fun F1 H1 a b R q =>
  h F1 H1 a b _ fun v F2 H2 e2 ⟨p, vs, ev, hv, av⟩ => h' F2 H2 (a.trans e2.fF) e2.sub _ fun w F3 H3 e3 ⟨p', ws, ew, hw, aw⟩ =>
  ⟨p, p', vs, ws, by rw [ev, ew], sqL_of (e3.hH _ _ (e2.sub _ _ hv)), sqL_of (e3.sub _ _ hw), q _ F3 H3 (e2.trans e3) ⟨fun i F' H' hF hH hi => by
      rw [List.length_zip] at hi
      have hi' : i < vs.length := by rw [av.length]; omega
      have hi2 : i < ws.length := by rw [aw.length]; omega
      exact ⟨vs, ws, vs[i], ws[i], sqL_of (hH _ _ (hF _ _ (e3.fF _ _ hv))), sqL_of (hH _ _ (hF _ _ hw)), List.getElem?_eq_getElem hi', List.getElem?_eq_getElem hi2⟩,
    fun i F' H' v H'' hF hH ⟨T, x, x', ev', hT, eH, f, f'⟩ y hy => by
      subst eH
      obtain ⟨y1, y2⟩ := y
      have hy' := List.getElem?_zip_eq_some.mp hy
      obtain ⟨u1, hu1, r1⟩ := av.get hy'.1
      obtain ⟨u2, hu2, r2⟩ := aw.get hy'.2
      have s1 : SqL K H' p vs := sqL_of (hH _ _ (hF _ _ (e3.fF _ _ hv)))
      have s2 : SqL K H' p' ws := sqL_of (hH _ _ (hF _ _ hw))
      have e4 : x = u1 := Option.some.inj ((f vs s1).symm.trans hu1)
      have e5 : x' = u2 := Option.some.inj ((f' ws s2).symm.trans hu2)
      subst e4 e5
      have e6 : Ex F' (upd F' T (.tup [x, x'])) := Ex.new (hH.none hT)
      exact ⟨_, Ext.new hH hT, T, _, _, ev', upd_same, Rep.mono ((e3.fF.trans hF).trans e6) r1, Rep.mono (hF.trans e6) r2⟩,
    fun i F' H' hF hH hi => ⟨vs, ws, sqL_of (hH _ _ (hF _ _ (e3.fF _ _ hv))), sqL_of (hH _ _ (hF _ _ hw)), by rw [List.length_zip] at hi; rw [av.length, aw.length]; omega⟩⟩⟩
def signs1 (s : Str) : List Str := s.cps.toList.map fun c => ⟨#[c]⟩
theorem ei_str {te : TE} {s : Str} (h : Ev K σ F te s) : EvI K σ F (iStr te) (signs1 s) := fun F1 H1 a b R q => h F1 H1 a b _ fun v F2 H2 e2 r2 =>
  ⟨s, r2, q _ F2 H2 e2 ⟨fun i F' H' hF hH hi => by
      unfold signs1 at hi
      rw [List.length_map, Array.length_toList] at hi
      exact hi, fun i F' H' v H'' hF hH ⟨e, c, hc, ev⟩ y hy => by
      subst e
      unfold signs1 at hy
      rw [List.getElem?_map, Array.getElem?_toList, hc] at hy
      have e2 := Option.some.inj hy
      subst e2
      exact ⟨F', Ext.refl hH, ev⟩, fun i F' H' hF hH hi => by
      unfold signs1 at hi
      rw [List.length_map, Array.length_toList] at hi
      exact hi⟩⟩
end

/-! ### loops -/
section
variable {K : Fg} {B : Bs} {F H : Hp} {σ : L2.St} {Γ : List Slot} {α β : Type} [Rep α] [Rep β] {D : Ends} {t : TT} {tu : TS}
/-- what a turn is to reach -/
def Nx (K : Fg) (B : Bs) (P : List Slot → Prop) (σ : L2.St) (H : Hp) : Prop := ∃ F Γ, Ok K B F H σ Γ ∧ P Γ
theorem s_for {wi : TI} {g : TG} {ys : List β} {up : β → List Slot → List Slot} (st : Ok K B F H σ Γ) (hi : EvI K σ F wi ys) (hg : ∀ y, Gt K g y (up y)) (Pv : Nat → List Slot → Prop) (h0 : Pv 0 Γ)
    (hs : ∀ G i y F1 H1 σ1 Γ1, ys[i]? = some y → Pv i Γ1 → Ok K ⟨B.F0, B.H0, G⟩ F1 H1 σ1 (up y Γ1) → tu { D with nx := Nx K ⟨B.F0, B.H0, G⟩ (Pv (i + 1)), ct := Nx K ⟨B.F0, B.H0, G⟩ (Pv (i + 1)), bk := D.nx } σ1 H1)
    (hd : ∀ F1 H1 σ1 Γ1, Pv ys.length Γ1 → Ok K B F1 H1 σ1 Γ1 → D.nx σ1 H1) : tFor wi g tu D σ H :=
  hi F H (Ex.refl F) st.sub _ fun J F1 H1 e yl => by
    have st1 := st.step e
    refine ⟨fun i m σ' H' => m = ys.length - i ∧ i ≤ ys.length ∧ Nx K ⟨B.F0, B.H0, F1⟩ (Pv i) σ' H', ⟨ys.length, rfl, Nat.zero_le _, F1, Γ, ⟨st1.ext, Ex.refl F1, st1.len, st1.val, st1.own, st1.apart⟩, h0⟩, ?_⟩
    rintro i m σ2 H2 ⟨rfl, hi2, F2, Γ2, st2, p2⟩
    by_cases hlt : i < ys.length
    · refine .inr ⟨yl.go i F2 H2 st2.anc st2.sub hlt, Nx K ⟨B.F0, B.H0, F1⟩ (Pv (i + 1)), fun σ' H' p' => ⟨ys.length - (i + 1), by omega, rfl, hlt, p'⟩, fun v H3 y3 => ?_⟩
      have hy : ys[i]? = some ys[i] := List.getElem?_eq_getElem hlt
      obtain ⟨F3, e3, r3⟩ := yl.yld i F2 H2 v H3 st2.anc st2.sub y3 _ hy
      exact hg ys[i] _ F3 H3 σ2 Γ2 v (st2.step e3) r3 _ fun σ' st' => hs F1 i ys[i] F3 H3 σ' Γ2 hy p2 st'
    · have e5 : i = ys.length := by omega
      subst e5
      exact .inl ⟨yl.stop _ F2 H2 st2.anc st2.sub (Nat.le_refl _), hd F2 H2 σ2 Γ2 p2 ⟨st2.ext, st1.anc.trans st2.anc, st2.len, st2.val, st2.own, st2.apart⟩⟩
theorem s_while (st : Ok K B F H σ Γ) (Pv : Nat → List Slot → Prop) (m0 : Nat) (h0 : Pv m0 Γ)
    (hs : ∀ m F1 H1 σ1 Γ1, Pv m Γ1 → Ok K B F1 H1 σ1 Γ1 → ∃ b, EvT K σ1 H1 t b ∧
      (b = true → ∀ F2 H2, Ok K B F2 H2 σ1 Γ1 → tu { D with nx := Nx K B (fun Γ' => ∃ m', m' < m ∧ Pv m' Γ'), ct := Nx K B (fun Γ' => ∃ m', m' < m ∧ Pv m' Γ'), bk := D.nx } σ1 H2) ∧
      (b = false → ∀ F2 H2, Ok K B F2 H2 σ1 Γ1 → D.nx σ1 H2)) : tWhile t tu D σ H := by
  refine ⟨fun m σ' H' => Nx K B (Pv m) σ' H', ⟨m0, F, Γ, st, h0⟩, ?_⟩
  rintro m σ1 H1 ⟨F1, Γ1, st1, p1⟩
  obtain ⟨b, hb, h1, h2⟩ := hs m F1 H1 σ1 Γ1 p1 st1
  refine hb H1 H1 (Ex.refl H1) (Ex.refl H1) _ fun F2 H2 e2 => ?_
  cases b with
  | true => exact ⟨_, fun σ' H' ⟨F3, Γ3, st3, m', hm, p3⟩ => ⟨m', hm, F3, Γ3, st3, p3⟩, h1 rfl F1 H2 (st1.heap e2.hH)⟩
  | false => exact h2 rfl F1 H2 (st1.heap e2.hH)
end

/-! ### a statement and what follows it -/
section
variable {K : Fg} {B : Bs} {F H : Hp} {σ : L2.St} {Γ : List Slot} {α β γ : Type} [Rep α] [Rep β] [Rep γ] {D : Ends} {te ti : TE} {t : TT} {tu tw tr : TS} {x : α}
theorem q_asg {i : Nat} (st : Ok K B F H σ Γ) (h : EvA K σ F H te x) (k : ∀ F' H' σ', Ok K B F' H' σ' (Γ.set i (Vl x)) → tr D σ' H') : tSeq (tAsg te (gName i)) tr D σ H := s_asg (D := { D with nx := tr D }) st h k
theorem q_asgG {y : α} {g : TG} {up : List Slot → List Slot} (st : Ok K B F H σ Γ) (h : EvA K σ F H te y) (hg : Gt K g y up) (k : ∀ F' H' σ', Ok K B F' H' σ' (up Γ) → tr D σ' H') : tSeq (tAsg te g) tr D σ H := s_asgG (D := { D with nx := tr D }) st h hg k
theorem q_newM {i : Nat} {l : List α} (st : Ok K B F H σ Γ) (h : EvN K σ F te l) (k : ∀ p F' H' σ', Ok K B F' H' σ' (Γ.set i (Mu p l)) → tr D σ' H') : tSeq (tAsg te (gName i)) tr D σ H := s_newM (D := { D with nx := tr D }) st h k
theorem q_if {b : Bool} (st : Ok K B F H σ Γ) (h : EvT K σ H t b) (h1 : b = true → ∀ F' H', Ok K B F' H' σ Γ → tu { D with nx := tr D } σ H') (h2 : b = false → ∀ F' H', Ok K B F' H' σ Γ → tr D σ H') : tSeq (tIfS t tu tNext) tr D σ H :=
  s_if (D := { D with nx := tr D }) st h h1 h2
theorem q_app {i : Nat} {p : Addr} {l : List α} (st : Ok K B F H σ Γ) (hi : Γ[i]? = some (Mu p l)) (h : EvA K σ F H te x) (hz : l.length < 16777216) (k : ∀ F' H', Ok K B F' H' σ (Γ.set i (Mu p (l ++ [x]))) → tr D σ H') :
    tSeq (tDrop (tBM K "list" rAppend (tVar i) (tCons te tNil))) tr D σ H := s_app (D := { D with nx := tr D }) st hi h hz k
theorem q_ext {i : Nat} {p : Addr} {l m : List α} (st : Ok K B F H σ Γ) (hi : Γ[i]? = some (Mu p l)) (h : EvA K σ F H te m) (hz : l.length + m.length ≤ 16777216) (k : ∀ F' H', Ok K B F' H' σ (Γ.set i (Mu p (l ++ m))) → tr D σ H') :
    tSeq (tDrop (tBM K "list" rExtend (tVar i) (tCons te tNil))) tr D σ H := s_ext (D := { D with nx := tr D }) st hi h hz k
theorem q_for {wi : TI} {g : TG} {ys : List β} {up : β → List Slot → List Slot} (st : Ok K B F H σ Γ) (hi : EvI K σ F wi ys) (hg : ∀ y, Gt K g y (up y)) (Pv : Nat → List Slot → Prop) (h0 : Pv 0 Γ)
    (hs : ∀ G i y F1 H1 σ1 Γ1, ys[i]? = some y → Pv i Γ1 → Ok K ⟨B.F0, B.H0, G⟩ F1 H1 σ1 (up y Γ1) → tu { D with nx := Nx K ⟨B.F0, B.H0, G⟩ (Pv (i + 1)), ct := Nx K ⟨B.F0, B.H0, G⟩ (Pv (i + 1)), bk := tr D } σ1 H1)
    (hd : ∀ F1 H1 σ1 Γ1, Pv ys.length Γ1 → Ok K B F1 H1 σ1 Γ1 → tr D σ1 H1) : tSeq (tFor wi g tu) tr D σ H := s_for (D := { D with nx := tr D }) st hi hg Pv h0 hs hd
theorem q_while (st : Ok K B F H σ Γ) (Pv : Nat → List Slot → Prop) (m0 : Nat) (h0 : Pv m0 Γ)
    (hs : ∀ m F1 H1 σ1 Γ1, Pv m Γ1 → Ok K B F1 H1 σ1 Γ1 → ∃ b, EvT K σ1 H1 t b ∧
      (b = true → ∀ F2 H2, Ok K B F2 H2 σ1 Γ1 → tu { D with nx := Nx K B (fun Γ' => ∃ m', m' < m ∧ Pv m' Γ'), ct := Nx K B (fun Γ' => ∃ m', m' < m ∧ Pv m' Γ'), bk := tr D } σ1 H2) ∧
      (b = false → ∀ F2 H2, Ok K B F2 H2 σ1 Γ1 → tr D σ1 H2)) : tSeq (tWhile t tu) tr D σ H := s_while (D := { D with nx := tr D }) st Pv m0 h0 hs
end

/-! ### comprehensions -/
section
variable {K : Fg} {F : Hp} {σ : L2.St} {Γ : List Slot} {α β γ : Type} [Rep α] [Rep β] [Rep γ]
theorem Vw.set {x : α} {v : V} (c : Vw K σ F Γ) (i : Nat) (h : rep K F v x) : Vw K (σ.set i (some v)) F (Γ.set i (Vl x)) := by
  refine ⟨by rw [List.length_set, List.length_set]; exact c.len, fun j d hj => ?_⟩
  by_cases e : i = j
  · subst e
    rw [List.getElem?_set, if_pos rfl] at hj
    split at hj
    · rename_i hl
      injection hj with hj
      injection hj with hj
      subst hj
      refine ⟨v, ?_, h⟩
      rw [List.getElem?_set, if_pos rfl, if_pos (by rw [← c.len]; exact hl)]
    · cases hj
  · rw [List.getElem?_set_ne e] at hj ⊢
    exact c.val j d hj
/-- the core: a target that stores into the block's own slots -/
theorem en_lcG {wi : TI} {g : TG} {tt : TT} {te : TE} {is : List Nat} {ys : List β} {cnd : β → Bool} {f : β → γ} {up : β → List Slot → List Slot} (c : Vw K σ F Γ) (hi : EvI K σ F wi ys) (hl : ys.length ≤ 16777216)
    (hg : ∀ y F1 H1 v (Q : L2.St → Hp → Prop), Ex F F1 → Ex F1 H1 → rep K F1 v y → (∀ σ1, wipe σ1 is = wipe σ is → Vw K σ1 F1 (up y Γ) → Q σ1 H1) → g v (wipe σ is) H1 Q)
    (ht : ∀ y F1 σ1, y ∈ ys → Ex F F1 → Vw K σ1 F1 (up y Γ) → EvT K σ1 F1 tt (cnd y)) (he : ∀ y F1 σ1, y ∈ ys → cnd y = true → Ex F F1 → Vw K σ1 F1 (up y Γ) → Ev K σ1 F1 te (f y)) :
    EvN K σ F (tLc wi g tt te is) ((ys.filter cnd).map f) := fun F1 H1 a b Q q => hi F1 H1 a b _ fun J F2 H2 e2 yl => by
  intro Dl hD
  have hF2 : F2 Dl = none := e2.sub.none hD
  refine ⟨fun i m H' => m = ys.length - i ∧ i ≤ ys.length ∧ ∃ F' vs, Ext F2 H2 F' H' ∧ F' Dl = none ∧ H' Dl = some (.lst vs) ∧ All2 (rep K F') vs (((ys.take i).filter cnd).map f), ⟨ys.length, rfl, Nat.zero_le _, F2, [], Ext.newM e2.sub hD, hF2, upd_same, .nil⟩, ?_⟩
  rintro i m H3 ⟨rfl, hi3, F3, vs, e3, hD3, hv3, av3⟩
  by_cases hlt : i < ys.length
  · refine .inr ⟨yl.go i F3 H3 e3.fF e3.sub hlt, fun H' => i + 1 ≤ ys.length ∧ ∃ F' vs, Ext F2 H2 F' H' ∧ F' Dl = none ∧ H' Dl = some (.lst vs) ∧ All2 (rep K F') vs (((ys.take (i + 1)).filter cnd).map f),
      fun H' p' => ⟨ys.length - (i + 1), by omega, rfl, p'⟩, fun v H4 y4 => ?_⟩
    have hy : ys[i]? = some ys[i] := List.getElem?_eq_getElem hlt
    have hm : ys[i] ∈ ys := List.getElem_mem hlt
    obtain ⟨F4, e4, r4⟩ := yl.yld i F3 H3 v H4 e3.fF e3.sub y4 _ hy
    have hF4 : Ex F F4 := ((a.trans e2.fF).trans e3.fF).trans e4.fF
    have take1 : ys.take (i + 1) = ys.take i ++ [ys[i]] := by rw [List.take_add_one, hy]; rfl
    refine hg ys[i] F4 H4 v _ hF4 e4.sub r4 fun σ1 w1 c1 => ⟨w1, ?_⟩
    refine ht ys[i] F4 σ1 hm hF4 c1 F4 H4 (Ex.refl F4) e4.sub _ fun F5 H5 e5 => ?_
    have e35 := (e3.trans e4).trans e5
    have nD5 : F5 Dl = none := (e4.trans e5).fresh Dl hD3 (by rw [hv3]; exact fun z => nomatch z)
    have hD5 : H5 Dl = some (.lst vs) := (e4.trans e5).hH _ _ hv3
    cases hc : cnd ys[i] with
    | true =>
      show te σ1 H5 _
      refine he ys[i] F4 σ1 hm hc hF4 c1 F5 H5 e5.fF e5.sub _ fun u F6 H6 e6 r6 => ?_
      have hD6 : H6 Dl = some (.lst vs) := e6.hH _ _ hD5
      have nD6 : F6 Dl = none := e6.fresh Dl nD5 (by rw [hD5]; exact fun z => nomatch z)
      refine ⟨vs, hD6, ?_, hlt, F6, vs ++ [u], ?_, nD6, upd_same, ?_⟩
      · rw [av3.length, List.length_map]
        have h1 := List.length_filter_le cnd (ys.take i)
        rw [List.length_take] at h1
        have h2 : sizeLine = 16777216 := by decide
        omega
      · exact (e35.trans e6).store hD nD6
      · rw [take1, List.filter_append, List.map_append]
        refine (av3.imp fun _ _ => Rep.mono ((e4.trans e5).trans e6).fF).append ?_
        rw [List.filter_cons, if_pos hc]
        exact .one r6
    | false =>
      show _ ∧ _
      refine ⟨hlt, F5, vs, e35, nD5, hD5, ?_⟩
      rw [take1, List.filter_append, List.map_append, List.filter_cons, if_neg (by rw [hc]; decide)]
      show All2 _ _ (_ ++ [])
      rw [List.append_nil]
      exact av3.imp fun _ _ => Rep.mono (e4.trans e5).fF
  · have e5 : i = ys.length := by omega
    subst e5
    rw [List.take_length] at av3
    exact .inl ⟨yl.stop _ F3 H3 e3.fF e3.sub (Nat.le_refl _), q Dl vs F3 H3 (e2.trans e3) (e2.hH.none hD) hD3 hv3 av3⟩
theorem wipe1 {σ : L2.St} {i : Nat} {v : Option V} : wipe ((wipe σ [i]).set i v) [i] = wipe σ [i] := by
  show (((σ.set i none).set i v).set i none) = σ.set i none
  rw [List.set_set, List.set_set]
theorem vw_wipe1 (c : Vw K σ F Γ) (i : Nat) : Vw K (wipe σ [i]) F (Γ.set i .any) := by
  refine ⟨by show _ = (σ.set i none).length; rw [List.length_set, List.length_set]; exact c.len, fun j d hj => ?_⟩
  have e : i ≠ j := fun e => by
    subst e
    rw [List.getElem?_set, if_pos rfl] at hj
    split at hj
    · injection hj with hj
      cases hj
    · cases hj
  show ∃ v, (σ.set i none)[j]? = _ ∧ _
  rw [List.getElem?_set_ne e] at hj ⊢
  exact c.val j d hj
/-- [e for x in .. if ..] -/
theorem en_lc {wi : TI} {tt : TT} {te : TE} {i : Nat} {ys : List β} {cnd : β → Bool} {f : β → γ} (c : Vw K σ F Γ) (hi : EvI K σ F wi ys) (hl : ys.length ≤ 16777216)
    (ht : ∀ y F1 σ1, y ∈ ys → Vw K σ1 F1 (Γ.set i (Vl y)) → EvT K σ1 F1 tt (cnd y)) (he : ∀ y F1 σ1, y ∈ ys → cnd y = true → Vw K σ1 F1 (Γ.set i (Vl y)) → Ev K σ1 F1 te (f y)) :
    EvN K σ F (tLc wi (gName i) tt te [i]) ((ys.filter cnd).map f) :=
  en_lcG (up := fun y Γ => Γ.set i (Vl y)) c hi hl (fun y F1 H1 v Q a b r q => q _ wipe1 (by
    have z := ((vw_wipe1 c i).mono a).set i r
    rw [List.set_set] at z
    exact z)) (fun y F1 σ1 hy _ z => ht y F1 σ1 hy z) fun y F1 σ1 hy hc _ z => he y F1 σ1 hy hc z
theorem en_map {wi : TI} {te : TE} {i : Nat} {ys : List β} {f : β → γ} (c : Vw K σ F Γ) (hi : EvI K σ F wi ys) (hl : ys.length ≤ 16777216) (he : ∀ y F1 σ1, y ∈ ys → Vw K σ1 F1 (Γ.set i (Vl y)) → Ev K σ1 F1 te (f y)) :
    EvN K σ F (tLc wi (gName i) tYes te [i]) (ys.map f) := by
  have z := en_lc (cnd := fun _ => true) (tt := tYes) (f := f) c hi hl (fun _ _ _ _ _ => et_yes) fun y F1 σ1 hy _ h => he y F1 σ1 hy h
  rw [List.filter_eq_self.mpr fun _ _ => rfl] at z
  exact z
theorem wipe2 {σ : L2.St} {i j : Nat} {v1 v2 : Option V} (h : i ≠ j) : (((((σ.set j none).set i none).set i v1).set j v2).set j none).set i none = (σ.set j none).set i none := by
  rw [List.set_set, List.set_set, List.set_comm (i := i) (j := j) _ _ h, List.set_set, List.set_set]
/-- [e for x, y in .. if ..] -/
theorem en_lc2 {wi : TI} {tt : TT} {te : TE} {i j : Nat} {ys : List (α × β)} {cnd : α × β → Bool} {f : α × β → γ} (hij : i ≠ j) (c : Vw K σ F Γ) (hi : EvI K σ F wi ys) (hl : ys.length ≤ 16777216)
    (ht : ∀ y F1 σ1, y ∈ ys → Vw K σ1 F1 ((Γ.set i (Vl y.1)).set j (Vl y.2)) → EvT K σ1 F1 tt (cnd y)) (he : ∀ y F1 σ1, y ∈ ys → cnd y = true → Vw K σ1 F1 ((Γ.set i (Vl y.1)).set j (Vl y.2)) → Ev K σ1 F1 te (f y)) :
    EvN K σ F (tLc wi (gTup K 2 (gCons (gName i) (gCons (gName j) gNil))) tt te [i, j]) ((ys.filter cnd).map f) :=
  en_lcG (up := fun y Γ => (Γ.set i (Vl y.1)).set j (Vl y.2)) c hi hl (fun y F1 H1 v Q a b ⟨p, v1, v2, ev, hv, r1, r2⟩ q => ⟨p, _, ev, sqT_of (b _ _ hv), rfl, v1, [v2], rfl, v2, [], rfl, rfl, q _ (by
      show (((((σ.set j none).set i none).set i (some v1)).set j (some v2)).set j none).set i none = (σ.set j none).set i none
      exact wipe2 hij) (by
      have z : Vw K (((σ.set j none).set i none)) F ((Γ.set j .any).set i .any) := vw_wipe1 (vw_wipe1 c j) i
      have z2 := ((z.mono a).set i r1).set j r2
      have e2 : (((Γ.set j Slot.any).set i Slot.any).set i (Vl y.1)).set j (Vl y.2) = (Γ.set i (Vl y.1)).set j (Vl y.2) := by
        rw [List.set_set, List.set_comm (i := i) (j := j) _ _ hij, List.set_set, List.set_comm (i := i) (j := j) _ _ hij]
      rw [e2] at z2
      exact z2)⟩) (fun y F1 σ1 hy _ z => ht y F1 σ1 hy z) fun y F1 σ1 hy hc _ z => he y F1 σ1 hy hc z
end

/-! ### defs -/
section
variable {β : Type} [Rep β]
/-- a promise: what is handed in, what is asked of it, what is handed back -/
def SpT {ι : Type} (K : Fg) (args : ι → List Dat) (pre : ι → Prop) (g : ι → β) : Sp := fun vs H Q _ => ∃ (i : ι) (F : Hp), Ex F H ∧ All2 (repD K F) vs (args i) ∧ pre i ∧ ∀ v F' H', Ext F H F' H' → rep K F' v (g i) → Q v H'
/-- the same with a new list, nobody's yet -/
def SpN {ι : Type} (K : Fg) (args : ι → List Dat) (pre : ι → Prop) (g : ι → List β) : Sp := fun vs H Q _ => ∃ (i : ι) (F : Hp), Ex F H ∧ All2 (repD K F) vs (args i) ∧ pre i ∧
  ∀ p us F' H', Ext F H F' H' → H p = none → F' p = none → H' p = some (.lst us) → All2 (rep K F') us (g i) → Q (.ref p) H'
theorem ev_call {ι : Type} {K : Fg} {σ : L2.St} {F : Hp} {args : ι → List Dat} {pre : ι → Prop} {g : ι → β} {ta : TA} {E : XK} (i : ι) (h : EvL K σ F ta (args i)) (hp : pre i) : Ev K σ F (tCall (SpT K args pre g) [] E ta) (g i) :=
  fun F1 H1 a b Q q => h F1 H1 a b _ fun vs F2 H2 e2 r2 => by
    show SpT K args pre g (vs ++ []) H2 Q E
    rw [List.append_nil]
    exact ⟨i, F2, e2.sub, r2, hp, fun v F3 H3 e3 r3 => q v F3 H3 (e2.trans e3) r3⟩
theorem en_call {ι : Type} {K : Fg} {σ : L2.St} {F : Hp} {args : ι → List Dat} {pre : ι → Prop} {g : ι → List β} {ta : TA} {E : XK} (i : ι) (h : EvL K σ F ta (args i)) (hp : pre i) : EvN K σ F (tCall (SpN K args pre g) [] E ta) (g i) :=
  fun F1 H1 a b Q q => h F1 H1 a b _ fun vs F2 H2 e2 r2 => by
    show SpN K args pre g (vs ++ []) H2 Q E
    rw [List.append_nil]
    exact ⟨i, F2, e2.sub, r2, hp, fun p us F3 H3 e3 h0 h1 h2 r3 => q p us F3 H3 (e2.trans e3) (e2.hH.none h0) h1 h2 r3⟩
end
/-- a def that stands under its name and keeps a promise -/
structure FnAt (P : Program) (w : World) (K : Fg) (mg : Str → Option Value) (x : Str) (k : Nat) (ps : List Str) (sp : Sp) : Prop where
  ex : ∃ f fd, mg x = some (.ref f) ∧ PySem.W.keepIn K (.ref f) = true ∧ Binds K fd ps [] ∧ (∀ (s : Shared) (us : List Value), us.length = ps.length → BindsTo s fd ⟨us, []⟩ (ps.zip us)) ∧ ∀ base, FnOk P w K mg base CX0 k f fd ps sp
theorem pe_fn {X : Cx} {k : Nat} {x : Str} {ps : List Str} {sp : Sp} {e : Expr} {es : List Expr} {t : TA} {p pos : Pos} (Fn : FnAt X.prog X.w X.K X.mg x k ps sp) (hr : Room k X.A) (hg : Gl X x) (ha : PA X (e :: es) t) (hx : Passes CX0 X E0)
    (hdb : (x == ("__debug__" : Str)) = false := by decide) (he : starEach (e :: es) X.env = (false, eval e X.env) :: starEach es X.env := by rfl) (hpl : (backTo pos (starEach es X.env)).any (·.1) = false := by rfl) :
    PE X (.Call (.Name x p) (e :: es) [] pos) (tCall sp [] E0 t) := by
  refine ⟨fun pins s σ H Q I h => ?_⟩
  obtain ⟨f, fd, hm, hk, hb, _, G⟩ := Fn.ex
  exact (pe_call (dvs := []) (G X.base) hr hg hm hk hb .nil hx ha hdb he hpl).run pins s σ H Q I h
/-- what the head hands over of a def -/
structure DefAt (P : Program) (K : Fg) (mg : Str → Option Value) (x : Str) (st : Stmt) : Prop where
  ex : ∃ f fd, mg x = some (.ref f) ∧ FunD K x x (defArgs st) (defBody st) (defScope st) [] [] f fd
def slots0 (ds : List Dat) (n : Nat) : List Slot := ds.map Slot.val ++ List.replicate (n - ds.length) .any
theorem start_ok {K : Fg} {F H : Hp} {vs : List V} {ds : List Dat} {N : List Str} (e : Ex F H) (h : All2 (repD K F) vs ds) : Ok K ⟨F, H, F⟩ F H (L2.start N vs) (slots0 ds N.length) := by
  have hlen := h.length
  refine ⟨Ext.refl e, Ex.refl F, ?_, fun i d hi => ?_, fun i p d hi => ?_, fun i j p q a b hi _ _ => ?_⟩
  · unfold slots0 L2.start
    rw [List.length_append, List.length_append, List.length_map, List.length_map, List.length_replicate, List.length_replicate, hlen]
  · unfold slots0 at hi
    rw [List.getElem?_append] at hi
    split at hi
    · rename_i hl
      rw [List.getElem?_map] at hi
      cases q : ds[i]? with
      | none => rw [q] at hi; cases hi
      | some d' =>
        rw [q] at hi
        have e1 : d' = d := by
          injection hi with hi
          injection hi
        subst e1
        obtain ⟨v, hv, rv⟩ := h.get q
        refine ⟨v, ?_, rv⟩
        unfold L2.start
        rw [List.getElem?_append_left (by rw [List.length_map, hlen]; rw [List.length_map] at hl; exact hl), List.getElem?_map, hv]
        rfl
    · rw [List.getElem?_replicate] at hi
      split at hi
      · injection hi with hi
        cases hi
      · cases hi
  all_goals
    unfold slots0 at hi
    rw [List.getElem?_append] at hi
    split at hi
    · rw [List.getElem?_map] at hi
      cases q : ds[i]? with
      | none => rw [q] at hi; cases hi
      | some d' =>
        rw [q] at hi
        injection hi with hi
        cases hi
    · rw [List.getElem?_replicate] at hi
      split at hi
      · injection hi with hi
        cases hi
      · cases hi
section
variable {P : Program} {w : World} {K : Fg} {mg : Str → Option Value} {β : Type} [Rep β]
theorem fnT {ι : Type} {x : Str} {st : Stmt} {N ps : List Str} {k : Nat} {args : ι → List Dat} {pre : ι → Prop} {g : ι → β} (hd : DefAt P K mg x st) (S : FnScope N ps (defScope st)) (hl : ∀ i, (args i).length = ps.length)
    (hb : ∀ (kV doc pm : Value) (an : Option Addr) (cdv ct : Value) (us : List Value), us.length = ps.length → bindArgs (PySem.W.fnOf x x (defArgs st) (defBody st) (defScope st) .none kV doc pm an cdv ct) ⟨us, []⟩ = pure (ps.zip us))
    (body : ∀ (base : Heap) (f : Addr) (i : ι), pre i → ∀ (cdv : Value) (A : Around) (outer : List Env) (s : Shared) (H : Hp) (E : XK), Room k (A.deeper (envOfC x (defScope st) s.heap.objs.size f cdv)) →
      ∃ t, PSs (cxOf CX0 P w K mg base N x (defScope st) f cdv A outer s H E).nox (defBody st) t ∧ ∀ (F0 : Hp) (σ : L2.St) (Q : VK), Ok K ⟨F0, H, F0⟩ F0 H σ (slots0 (args i) N.length) → (∀ v F' H', Ext F0 H F' H' → rep K F' v (g i) → Q v H') →
        t { nx := fun _ H' => Q .non H', rt := Q } σ H) : FnAt P w K mg x (k + 1) ps (SpT K args pre g) := by
  obtain ⟨f, fd, hm, Fd⟩ := hd.ex
  refine ⟨f, fd, hm, Fd.kp, Fd.bindsN hb, fun s us hl => Fd.bindsA hb s us hl, fun base => Fd.ok S (fun vs H Q E ⟨i, F, _, r, _⟩ => r.length.trans (hl i)) fun cdv A outer s H vs Q E hr ⟨i, F, e, r, hp, q⟩ => ?_⟩
  obtain ⟨t, h1, h2⟩ := body base f i hp cdv A outer s H E hr
  exact ⟨t, PSs.nox h1, h2 F _ Q (start_ok e r) q⟩
theorem fnN {ι : Type} {x : Str} {st : Stmt} {N ps : List Str} {k : Nat} {args : ι → List Dat} {pre : ι → Prop} {g : ι → List β} (hd : DefAt P K mg x st) (S : FnScope N ps (defScope st)) (hl : ∀ i, (args i).length = ps.length)
    (hb : ∀ (kV doc pm : Value) (an : Option Addr) (cdv ct : Value) (us : List Value), us.length = ps.length → bindArgs (PySem.W.fnOf x x (defArgs st) (defBody st) (defScope st) .none kV doc pm an cdv ct) ⟨us, []⟩ = pure (ps.zip us))
    (body : ∀ (base : Heap) (f : Addr) (i : ι), pre i → ∀ (cdv : Value) (A : Around) (outer : List Env) (s : Shared) (H : Hp) (E : XK), Room k (A.deeper (envOfC x (defScope st) s.heap.objs.size f cdv)) →
      ∃ t, PSs (cxOf CX0 P w K mg base N x (defScope st) f cdv A outer s H E).nox (defBody st) t ∧ ∀ (F0 : Hp) (σ : L2.St) (Q : VK), Ok K ⟨F0, H, F0⟩ F0 H σ (slots0 (args i) N.length) →
        (∀ p us F' H', Ext F0 H F' H' → H p = none → F' p = none → H' p = some (.lst us) → All2 (rep K F') us (g i) → Q (.ref p) H') → t { nx := fun _ H' => Q .non H', rt := Q } σ H) : FnAt P w K mg x (k + 1) ps (SpN K args pre g) := by
  obtain ⟨f, fd, hm, Fd⟩ := hd.ex
  refine ⟨f, fd, hm, Fd.kp, Fd.bindsN hb, fun s us hl => Fd.bindsA hb s us hl, fun base => Fd.ok S (fun vs H Q E ⟨i, F, _, r, _⟩ => r.length.trans (hl i)) fun cdv A outer s H vs Q E hr ⟨i, F, e, r, hp, q⟩ => ?_⟩
  obtain ⟨t, h1, h2⟩ := body base f i hp cdv A outer s H E hr
  exact ⟨t, PSs.nox h1, h2 F _ Q (start_ok e r) q⟩
end
end Ty
end
section
set_option Elab.async false
set_option linter.all false
set_option maxRecDepth 100000
set_option maxHeartbeats 2000000
/-! Built-ins over the typed layer; slices with a step, tables of whole numbers, the order of cells. -/
namespace Ty
open PySem PySem.Spec PyProof.Rows L2
open Rep (rep)
section
variable {K : Fg} {σ : L2.St} {F F' H H' : Hp} {ta tb te : TE} {α β γ : Type} [Rep α] [Rep β] [Rep γ] {x : α} {y : β} {z : γ}
/-! ### numbers -/
theorem ev_max2 {i j : Int} (ha : Ev K σ F ta i) (hb : Ev K σ F tb j) : Ev K σ F (tCB (fun xs H Q => ∃ i j, xs = [.int i, .int j] ∧ Q (.int (if j > i then j else i)) H) (tCons ta (tCons tb tNil))) (R.maxI i j) :=
  ev_cb (el_cons ha (el_cons hb el_nil)) fun F H vs e hv Q q => by
    cases hv with
    | @cons v1 _ _ _ h1 h2 =>
      cases h2 with
      | @cons v2 _ _ _ h2 h3 =>
        cases h3
        obtain rfl : v1 = V.int i := h1
        obtain rfl : v2 = V.int j := h2
        exact ⟨i, j, rfl, q _ F H (Ext.refl e) rfl⟩
theorem ev_min2 {i j : Int} (ha : Ev K σ F ta i) (hb : Ev K σ F tb j) : Ev K σ F (tCB (fun xs H Q => ∃ i j, xs = [.int i, .int j] ∧ Q (.int (if j < i then j else i)) H) (tCons ta (tCons tb tNil))) (R.minI i j) :=
  ev_cb (el_cons ha (el_cons hb el_nil)) fun F H vs e hv Q q => by
    cases hv with
    | @cons v1 _ _ _ h1 h2 =>
      cases h2 with
      | @cons v2 _ _ _ h2 h3 =>
        cases h3
        obtain rfl : v1 = V.int i := h1
        obtain rfl : v2 = V.int j := h2
        exact ⟨i, j, rfl, q _ F H (Ext.refl e) rfl⟩
theorem rc_ints {r : List V → Hp → VK → Prop} {l : List Int} {z : γ} (h : ∀ F H a, Ex F H → H a = some (.lst (l.map V.int)) → ∀ Q : VK, (∀ u F' H', Ext F H F' H' → rep K F' u z → Q u H') → r [.ref a] H Q) : RC K r [⟨l⟩] z := fun F H vs e hv Q q => by
  cases hv with
  | cons h1 h2 =>
    cases h2
    obtain ⟨a, rfl, h3⟩ := rep_ints h1
    exact h F H a e (e _ _ h3) Q q
theorem ev_sum {l : List Int} (ha : Ev K σ F ta l) : Ev K σ F (tCB (rSum K) (tCons ta tNil)) l.sum := ev_cb (el_cons ha el_nil) (rc_ints fun F H a e h Q q => ⟨a, l, rfl, sqL_of h, q _ F H (Ext.refl e) rfl⟩)
theorem lmax_eq {l : List Int} {m : Int} (h : m ∈ l) (hm : ∀ y ∈ l, y ≤ m) : m = R.lmax l := by
  cases l with
  | nil => cases h
  | cons a r =>
    have g : ∀ (l : List Int) (a : Int), (a ≤ l.foldl max a ∧ ∀ y ∈ l, y ≤ l.foldl max a) ∧ (l.foldl max a = a ∨ l.foldl max a ∈ l) := by
      intro l
      induction l with
      | nil => intro a; exact ⟨⟨Int.le_refl _, fun _ h => by cases h⟩, .inl rfl⟩
      | cons b r ih =>
        intro a
        obtain ⟨⟨h1, h2⟩, h3⟩ := ih (max a b)
        refine ⟨⟨by rw [List.foldl_cons]; omega, fun y hy => ?_⟩, ?_⟩
        · rw [List.foldl_cons]
          rcases List.mem_cons.mp hy with e | e
          · subst e; omega
          · exact h2 y e
        · rw [List.foldl_cons]
          rcases h3 with h3 | h3
          · by_cases c : a ≤ b
            · right; rw [h3, Int.max_eq_right c]; exact List.mem_cons_self
            · left; rw [h3, Int.max_eq_left (by omega)]
          · exact .inr (List.mem_cons_of_mem _ h3)
    obtain ⟨⟨h1, h2⟩, h3⟩ := g r a
    have e : R.lmax (a :: r) = r.foldl max a := rfl
    rw [e]
    have le1 : m ≤ r.foldl max a := by
      rcases List.mem_cons.mp h with e | e
      · subst e; exact h1
      · exact h2 m e
    have le2 : r.foldl max a ≤ m := by
      rcases h3 with h3 | h3
      · rw [h3]; exact hm a List.mem_cons_self
      · exact hm _ (List.mem_cons_of_mem _ h3)
    omega
theorem lmin_eq {l : List Int} {m : Int} (h : m ∈ l) (hm : ∀ y ∈ l, m ≤ y) : m = R.lmin l := by
  cases l with
  | nil => cases h
  | cons a r =>
    have g : ∀ (l : List Int) (a : Int), (l.foldl min a ≤ a ∧ ∀ y ∈ l, l.foldl min a ≤ y) ∧ (l.foldl min a = a ∨ l.foldl min a ∈ l) := by
      intro l
      induction l with
      | nil => intro a; exact ⟨⟨Int.le_refl _, fun _ h => by cases h⟩, .inl rfl⟩
      | cons b r ih =>
        intro a
        obtain ⟨⟨h1, h2⟩, h3⟩ := ih (min a b)
        refine ⟨⟨by rw [List.foldl_cons]; omega, fun y hy => ?_⟩, ?_⟩
        · rw [List.foldl_cons]
          rcases List.mem_cons.mp hy with e | e
          · subst e; omega
          · exact h2 y e
        · rw [List.foldl_cons]
          rcases h3 with h3 | h3
          · by_cases c : b ≤ a
            · right; rw [h3, Int.min_eq_right c]; exact List.mem_cons_self
            · left; rw [h3, Int.min_eq_left (by omega)]
          · exact .inr (List.mem_cons_of_mem _ h3)
    obtain ⟨⟨h1, h2⟩, h3⟩ := g r a
    have e : R.lmin (a :: r) = r.foldl min a := rfl
    rw [e]
    have le1 : r.foldl min a ≤ m := by
      rcases List.mem_cons.mp h with e | e
      · subst e; exact h1
      · exact h2 m e
    have le2 : m ≤ r.foldl min a := by
      rcases h3 with h3 | h3
      · rw [h3]; exact hm a List.mem_cons_self
      · exact hm _ (List.mem_cons_of_mem _ h3)
    omega
theorem ev_max {l : List Int} (ha : Ev K σ F ta l) (hl : l ≠ []) : Ev K σ F (tCB (rMax K) (tCons ta tNil)) (R.lmax l) := ev_cb (el_cons ha el_nil) (rc_ints fun F H a e h Q q =>
  ⟨a, l, rfl, sqL_of h, List.length_pos_iff.mpr hl, fun m hm hle => q _ F H (Ext.refl e) (congrArg V.int (lmax_eq hm hle))⟩)
theorem ev_min {l : List Int} (ha : Ev K σ F ta l) (hl : l ≠ []) : Ev K σ F (tCB (rMin K) (tCons ta tNil)) (R.lmin l) := ev_cb (el_cons ha el_nil) (rc_ints fun F H a e h Q q =>
  ⟨a, l, rfl, sqL_of h, List.length_pos_iff.mpr hl, fun m hm hle => q _ F H (Ext.refl e) (congrArg V.int (lmin_eq hm hle))⟩)
theorem ev_all {l : List Bool} (ha : Ev K σ F ta l) : Ev K σ F (tCB (rAll K) (tCons ta tNil)) (l.all id) := ev_cb (el_cons ha el_nil) fun F H vs e hv Q q => by
  cases hv with
  | cons h1 h2 =>
    cases h2
    obtain ⟨a, ys, rfl, h3, h4⟩ := h1
    rw [bools_of h4] at h3
    exact ⟨a, l, rfl, sqL_of (e _ _ h3), q _ F H (Ext.refl e) rfl⟩
theorem ev_any {l : List Bool} (ha : Ev K σ F ta l) : Ev K σ F (tCB (rAny K) (tCons ta tNil)) (l.any id) := ev_cb (el_cons ha el_nil) fun F H vs e hv Q q => by
  cases hv with
  | cons h1 h2 =>
    cases h2
    obtain ⟨a, ys, rfl, h3, h4⟩ := h1
    rw [bools_of h4] at h3
    exact ⟨a, l, rfl, sqL_of (e _ _ h3), q _ F H (Ext.refl e) rfl⟩
theorem ev_strI {i : Int} (ha : Ev K σ F ta i) (hi : i.natAbs.log2 < 1920) : Ev K σ F (tCB (fun xs H Q => ∃ i, xs = [.int i] ∧ i.natAbs.log2 < 1920 ∧ Q (.str (toString i)) H) (tCons ta tNil)) ((toString i : String) : Str) :=
  ev_cb (el_cons ha el_nil) fun F H vs e hv Q q => by
    cases hv with
    | cons h1 h2 =>
      cases h2
      rename_i v1
      obtain rfl : v1 = V.int i := h1
      exact ⟨i, rfl, hi, q _ F H (Ext.refl e) rfl⟩
theorem ev_ord {s : Str} (ha : Ev K σ F ta s) (hs : s.length = 1) : Ev K σ F (tCB (fun xs H Q => ∃ x, xs = [.str x] ∧ x.length = 1 ∧ Q (.int (x.cps.getD 0 0 : Nat)) H) (tCons ta tNil)) ((s.cps.getD 0 0 : Nat) : Int) :=
  ev_cb (el_cons ha el_nil) fun F H vs e hv Q q => by
    cases hv with
    | cons h1 h2 =>
      cases h2
      rename_i v1
      obtain rfl : v1 = V.str s := h1
      exact ⟨s, rfl, hs, q _ F H (Ext.refl e) rfl⟩
/-- the first place of a number that is there -/
theorem placeOf_spec : ∀ {l : List Int} {x : Int}, x ∈ l → l[R.placeOf x l]? = some x ∧ ∀ m z, m < R.placeOf x l → l[m]? = some z → z ≠ x
  | a :: r, x, h => by
    unfold R.placeOf
    by_cases c : a = x
    · rw [if_pos c]
      exact ⟨by rw [c]; rfl, fun m z hm => by omega⟩
    · rw [if_neg c]
      have hx : x ∈ r := by
        rcases List.mem_cons.mp h with e | e
        · exact absurd e.symm c
        · exact e
      obtain ⟨h1, h2⟩ := placeOf_spec hx
      refine ⟨h1, fun m z hm hz => ?_⟩
      cases m with
      | zero =>
        have e := Option.some.inj hz
        rw [← e]
        exact c
      | succ m => exact h2 m z (by omega) hz
theorem flat_ints (l : List Int) : (l.map V.int).all flatV = true := by
  rw [List.all_map]
  exact List.all_eq_true.mpr fun _ _ => rfl
theorem ev_index {l : List Int} {n : Int} (ha : Ev K σ F ta l) (hb : Ev K σ F tb n) (hn : n ∈ l) : Ev K σ F (tBM K "list" (rIndex K) ta (tCons tb tNil)) (R.placeOf n l : Int) := fun F1 H1 a b Q q =>
  ha F1 H1 a b _ fun v F2 H2 e2 r2 => by
    obtain ⟨p, rfl, hp⟩ := rep_ints r2
    refine ⟨.inl ⟨rfl, _, sqL_of (e2.sub _ _ hp)⟩, ?_⟩
    refine hb F2 H2 (a.trans e2.fF) e2.sub _ fun w F3 H3 e3 r3 => ?_
    obtain rfl : w = V.int n := r3
    obtain ⟨h1, h2⟩ := placeOf_spec hn
    refine ⟨p, l.map V.int, .int n, R.placeOf n l, .int n, rfl, rfl, sqL_of (e3.hH _ _ (e2.sub _ _ hp)), rfl, flat_ints l, by rw [List.getElem?_map, h1]; rfl, by simp [eqV], fun m z hm hz => ?_, q _ F3 H3 (e2.trans e3) rfl⟩
    rw [List.getElem?_map] at hz
    cases hl : l[m]? with
    | none => rw [hl] at hz; cases hz
    | some k =>
      rw [hl] at hz
      have e := Option.some.inj hz
      subst e
      have := h2 m k hm hl
      simpa [eqV] using this

/-! ### lists of numbers side by side -/
def dl (l : List Int) : PyData := .list (l.map PyData.int)
theorem dp_all {H : Hp} : ∀ (l : List Int), DpAll K H (l.map V.int) (l.map PyData.int)
  | [] => .nil
  | x :: r => .cons (.int x) (dp_all r)
theorem dp_list {a : Addr} {l : List Int} (h : H a = some (.lst (l.map V.int))) : Dp K H (.ref a) (dl l) := .lst (sqL_of h) (dp_all l)
theorem eqv_all : ∀ (l m : List Int), PyData.eqvAll (l.map PyData.int) (m.map PyData.int) = decide (l = m)
  | [], [] => rfl
  | [], _ :: _ => rfl
  | _ :: _, [] => rfl
  | x :: l, y :: m => by
    rw [List.map_cons, List.map_cons]
    show (PyData.eqv (.int x) (.int y) && PyData.eqvAll (l.map PyData.int) (m.map PyData.int)) = _
    rw [eqv_all l m]
    by_cases h : x = y
    · subst h
      have e : PyData.eqv (.int x) (.int x) = true := by simp [PyData.eqv]
      rw [e, Bool.true_and]
      by_cases h2 : l = m
      · subst h2; simp
      · rw [decide_eq_false h2, decide_eq_false fun e => h2 (List.cons.inj e).2]
    · have e : PyData.eqv (.int x) (.int y) = false := by simpa [PyData.eqv] using h
      rw [e, Bool.false_and, decide_eq_false fun e => h (List.cons.inj e).1]
theorem eqv_dl (l m : List Int) : PyData.eqv (dl l) (dl m) = decide (l = m) := by
  unfold dl
  rw [PyData.eqv]
  exact eqv_all l m
theorem canAll : ∀ l : List Int, PyData.canLayAll0 (l.map PyData.int) = true
  | [] => rfl
  | x :: r => by
    rw [List.map_cons, PyData.canLayAll0, canAll r]
    rfl
theorem depAll : ∀ l : List Int, PyData.depthAll (l.map PyData.int) = 0
  | [] => rfl
  | x :: r => by
    rw [List.map_cons, PyData.depthAll, depAll r]
    rfl
theorem shaped_dl (l : List Int) : SeqAt.shaped (dl l) = true := by
  unfold dl SeqAt.shaped
  rw [Bool.and_eq_true]
  refine ⟨?_, decide_eq_true ?_⟩
  · rw [PyData.canLay0]
    exact canAll l
  · rw [PyData.depth, depAll]
    decide
theorem ev_eqL {l m : List Int} (ha : Ev K σ F ta l) (hb : Ev K σ F tb m) : Ev K σ F (tOp (rEqD K) ta tb) (decide (l = m)) := ev_op ha hb fun F H v w e hv hw Q q => by
  obtain ⟨a, rfl, h1⟩ := rep_ints hv
  obtain ⟨b, rfl, h2⟩ := rep_ints hw
  exact ⟨dl l, dl m, dp_list (e _ _ h1), dp_list (e _ _ h2), shaped_dl l, shaped_dl m, q _ F H (Ext.refl e) (congrArg V.bl (eqv_dl l m))⟩
theorem ev_neL {l m : List Int} (ha : Ev K σ F ta l) (hb : Ev K σ F tb m) : Ev K σ F (tOp (rNeD K) ta tb) (!decide (l = m)) := ev_op ha hb fun F H v w e hv hw Q q => by
  obtain ⟨a, rfl, h1⟩ := rep_ints hv
  obtain ⟨b, rfl, h2⟩ := rep_ints hw
  exact ⟨dl l, dl m, dp_list (e _ _ h1), dp_list (e _ _ h2), shaped_dl l, shaped_dl m, q _ F H (Ext.refl e) (congrArg (fun b => V.bl (!b)) (eqv_dl l m))⟩
end
/-! ### a tuple of the module, asked whether a number stands in it -/
structure ITup (K : Fg) (mg : Str → Option Value) (x : Str) (ns : List Int) : Prop where
  ex : ∃ a, mg x = some (.ref a) ∧ ∀ H : Hp, SqT K H a (ns.map V.int)
theorem inV_int (n : Int) (l : List Int) : inV (.int n) (l.map V.int) = l.contains n := by
  unfold inV
  rw [List.any_map]
  induction l with
  | nil => rfl
  | cons x r ih =>
    rw [List.any_cons, List.contains_cons, ih]
    congr 1
    show eqV (.int x) (.int n) = (n == x)
    show (x == n) = (n == x)
    rw [Bool.eq_iff_iff, beq_iff_eq, beq_iff_eq]
    exact eq_comm
theorem ev_notInK {K : Fg} {σ : L2.St} {F : Hp} {ta : TE} {a : Addr} {n : Int} {ns : List Int} (hT : ∀ H : Hp, SqT K H a (ns.map V.int)) (ha : Ev K σ F ta n) : Ev K σ F (tOp (rIn K true) ta (tC (.ref a))) (!ns.contains n) := fun F1 H1 a1 b Q q =>
  ha F1 H1 a1 b _ fun v F2 H2 e2 r2 => by
    obtain rfl : v = V.int n := r2
    refine ⟨a, ns.map V.int, rfl, .inr (hT H2), rfl, flat_ints ns, ?_⟩
    refine q _ F2 H2 e2 ?_
    show V.bl (!inV (.int n) (ns.map V.int)) = V.bl (!ns.contains n)
    rw [inV_int]
theorem ev_ixK {K : Fg} {σ : L2.St} {F : Hp} {te : TE} {a : Addr} {i n : Int} {ns : List Int} (hT : ∀ H : Hp, SqT K H a (ns.map V.int)) (h : Ev K σ F te i) (hi : atI ns i = some n) : Ev K σ F (tOp (rIxT K) (tC (.ref a)) te) n := fun F1 H1 a1 b Q q =>
  h F1 H1 a1 b _ fun v F2 H2 e2 r2 => by
    obtain ⟨s, hs, rs⟩ := all2_ixN (all2_ints (K := K) (F := F2) ns) hi
    exact ⟨a, _, i, s, rfl, r2, hT H2, hs, q _ F2 H2 e2 rs⟩

/-! ### a dict of the module from numbers to numbers -/
structure DictK (K : Fg) (a : Addr) (f : Int → Option Int) : Prop where
  ex : ∃ o es n, K.lookup a = some o ∧ Obj.ExactDict o ∧ o.data = .dict es n ∧ (a == sysModules) = false ∧ (∀ e ∈ es, ∃ k : Int, Value.isInt k e.key = true ∧ e.hash = hashInt k) ∧
    ∀ k : Int, (∃ u v, findBy Value.isInt es k = some u ∧ f k = some v ∧ RelV (.int v) u) ∨ (findBy Value.isInt es k = none ∧ f k = none)
theorem DictK.map {K : Fg} {a : Addr} {f : Int → Option Int} (D : DictK K a f) (P : Program) (w : World) {h : Heap} (X : K.In h) :
    ∃ g, h.MapOf (intKind P w) a g ∧ (a == sysModules) = false ∧ ∀ k : Int, (∃ u v, g k = some u ∧ f k = some v ∧ RelV (.int v) u) ∨ (g k = none ∧ f k = none) := by
  obtain ⟨o, es, n, h1, h2, h3, h4, h5, h6⟩ := D.ex
  exact ⟨fun k => findBy Value.isInt es k, ⟨o, es, n, X _ _ h1, h2, h3, h5, fun k => rfl⟩, h4, h6⟩
section
variable {X : Cx} {a : Addr} {f : Int → Option Int}
theorem op_inD (D : DictK X.K a f) : OpR X (compareOp .In) (fun x y H Q => ∃ n, x = .int n ∧ y = .ref a ∧ Q (.bl (f n).isSome) H) := by
  intro pins s σ H x y v u Q I rx ry h
  obtain ⟨n, rfl, rfl, q⟩ := h
  obtain ⟨t, rfl⟩ := rx
  obtain rfl : u = Value.ref a := ry
  obtain ⟨g, hm, ha, hg⟩ := D.map X.prog X.w I.kIn
  refine wpAny_in_of (intKind_is X.prog X.w n t) ha hm ?_
  have e : (g n).isSome = (f n).isSome := by
    rcases hg n with ⟨u, v, h1, h2, _⟩ | ⟨h1, h2⟩
    · rw [h1, h2] <;> rfl
    · rw [h1, h2] <;> rfl
  rw [e]
  exact ⟨.bl (f n).isSome, H, I.tok _, rfl, q⟩
theorem ix_D (D : DictK X.K a f) : IxR X (fun x y H Q => ∃ n m, x = .ref a ∧ y = .int n ∧ f n = some m ∧ Q (.int m) H) := by
  intro value slice pins s σ H x y v u Q I rx ry h hs
  obtain ⟨n, m, rfl, rfl, hf, q⟩ := h
  obtain rfl : v = Value.ref a := rx
  obtain ⟨t, rfl⟩ := ry
  obtain ⟨g, hm, ha, hg⟩ := D.map X.prog X.w I.kIn
  rcases hg n with ⟨u, m', h1, h2, r⟩ | ⟨h1, h2⟩
  · have e : m' = m := Option.some.inj (h2.symm.trans hf)
    subst e
    exact tail_any hm.typeIs slot_dict_getitem.lookup (wpAny_getItem_of (intKind_is X.prog X.w n t) hm h1 ⟨.int m', H, I.tok _, r, q⟩) hs
  · rw [h2] at hf
    cases hf
/-- D.get(y, z), D a dict of the module -/
def tGetD (f : Int → Option Int) (td te tx : TE) : TE := fun σ H Q => td σ H fun _ H1 => te σ H1 fun y H2 => tx σ H2 fun z H3 => ∃ n m, y = .int n ∧ z = .int m ∧ Q (.int ((f n).getD m)) H3
theorem pe_getD {e e2 o : Expr} {apos cpos : Pos} {te tx td : TE} (D : DictK X.K a f) (ho : PE X o (tC (.ref a))) (he : PE X e te) (hf : PE X e2 tx) (m : M2 X o "get" apos e e2 cpos) : PE X (.Call (.Attribute o "get" apos) [e, e2] [] cpos) (tGetD f (tC (.ref a)) te tx) := by
  refine ⟨fun pins s σ H Q I h => ?_⟩
  have h' : tC (.ref a) σ H fun x H1 => x = .ref a ∧ te σ H1 fun y H2 => tx σ H2 fun z H3 => ∃ n m, y = .int n ∧ z = .int m ∧ Q (.int ((f n).getD m)) H3 := ⟨rfl, h⟩
  refine wpAny_Call_method m.base m.few m.line PySem.F.plainAttrs_dict PySem.F.slot_dict_get PySem.F.type_dict_get (thn (ho.run pins s σ H _ I h') fun u s1 ⟨x, H1, I1, rx, ex, q1⟩ => ?_)
  subst ex
  obtain rfl : u = Value.ref a := rx
  obtain ⟨g, hm, ha, hg⟩ := D.map X.prog X.w I1.kIn
  refine ⟨hm.typeIs, fun b z => ?_, ?_⟩
  · cases z
    obtain ⟨ob, _, _, k1, k2, _⟩ := hm
    exact ⟨ob, k1, k2.2.1⟩
  rw [m.trees]
  refine Calls.callWith_builtin rfl (Calls.evalArgs_plain (Calls.spliced_cons (thn (he.run pins s1 σ H1 _ I1 q1) fun iv s2 ⟨y, H2, I2, ry, q2⟩ => Calls.spliced_cons (thn (hf.run pins s2 σ H2 _ I2 q2) fun fv s3 ⟨z, H3, I3, rz, n, mm, ey, ez, q3⟩ => Calls.spliced_nil ?_))))
  subst ey ez
  obtain ⟨t, rfl⟩ := ry
  obtain ⟨g3, hm3, ha3, hg3⟩ := D.map X.prog X.w I3.kIn
  refine call_meetsIn PySem.F.slot_dict_get hm3.typeIs PySem.F.entry_dict_get (PySem.F.args_dict_get_3 _ _ _) (meets_dict_get_default (intKind X.prog X.w) a (intKind_is X.prog X.w n t) ha3 fv) ⟨_, hm3, ?_⟩
  rcases hg3 n with ⟨u, v, h1, h2, r⟩ | ⟨h1, h2⟩
  · rw [h1]
    rw [h2] at q3
    exact ⟨.int v, H3, I3.tok _, r, q3⟩
  · rw [h1]
    rw [h2] at q3
    exact ⟨.int mm, H3, I3.tok _, rz, q3⟩
end
section
variable {K : Fg} {σ : L2.St} {F : Hp} {te tx : TE} {a : Addr} {f : Int → Option Int} {n m : Int}
theorem ev_inD (h : Ev K σ F te n) : Ev K σ F (tOp (fun x y H Q => ∃ n, x = .int n ∧ y = .ref a ∧ Q (.bl (f n).isSome) H) te (tC (.ref a))) (f n).isSome := fun F1 H1 a1 b Q q =>
  h F1 H1 a1 b _ fun v F2 H2 e2 r2 => ⟨n, r2, rfl, q _ F2 H2 e2 rfl⟩
theorem ev_ixD (h : Ev K σ F te n) (hf : f n = some m) : Ev K σ F (tOp (fun x y H Q => ∃ n m, x = .ref a ∧ y = .int n ∧ f n = some m ∧ Q (.int m) H) (tC (.ref a)) te) m := fun F1 H1 a1 b Q q =>
  h F1 H1 a1 b _ fun v F2 H2 e2 r2 => ⟨n, m, rfl, r2, hf, q _ F2 H2 e2 rfl⟩
theorem ev_getD (h : Ev K σ F te n) (h' : Ev K σ F tx m) : Ev K σ F (tGetD f (tC (.ref a)) te tx) ((f n).getD m) := fun F1 H1 a1 b Q q =>
  h F1 H1 a1 b _ fun v F2 H2 e2 r2 => h' F2 H2 (a1.trans e2.fF) e2.sub _ fun w F3 H3 e3 r3 => ⟨n, m, r2, r3, q _ F3 H3 (e2.trans e3) rfl⟩
end

/-! ### the order of cells -/
def dc (c : R.Cell) : PyData := .tuple [.int c.a, .int c.b, dl c.c]
theorem dp_cell {K : Fg} {H : Hp} {v : V} {c : R.Cell} (h : rep K H v c) : Dp K H v (dc c) := by
  obtain ⟨a, v1, v2, v3, rfl, h0, h1, h2, h3⟩ := h
  obtain rfl : v1 = V.int c.a := h1
  obtain rfl : v2 = V.int c.b := h2
  obtain ⟨p, rfl, h4⟩ := rep_ints h3
  exact .tup (sqT_of h0) (.cons (.int _) (.cons (.int _) (.cons (dp_list h4) .nil)))
theorem alike_ints : ∀ l m : List Int, PySem.W.alikeAll (l.map PyData.int) (m.map PyData.int) = true
  | [], [] => rfl
  | [], _ :: _ => rfl
  | _ :: _, [] => rfl
  | x :: l, y :: m => by
    rw [List.map_cons, List.map_cons, PySem.W.alikeAll, alike_ints l m]
    rfl
theorem alike_dc (c d : R.Cell) : PySem.W.alike (dc c) (dc d) = true := by
  unfold dc dl
  rw [PySem.W.alike, PySem.W.alikeAll, PySem.W.alikeAll, PySem.W.alikeAll, PySem.W.alike, PySem.W.alike, PySem.W.alike, alike_ints]
  rfl
theorem toks_nil_nil : PyProof.Rows.lexLt PyProof.Rows.itemOrd (PySem.W.keyToksAll []) (PySem.W.keyToksAll []) = false := by decide
theorem lt_ints : ∀ l m : List Int, PyProof.Rows.lexLt PyProof.Rows.itemOrd (PySem.W.keyToksAll (l.map PyData.int)) (PySem.W.keyToksAll (m.map PyData.int)) = R.listLt l m
  | [], [] => toks_nil_nil
  | [], y :: m => by
    rw [List.map_nil, List.map_cons, PySem.W.keyToksAll, PySem.W.keyToksAll]
    exact (PySem.W.lex_atom (by simp) _ _).trans (show PyProof.Rows.lexLt PyProof.Rows.itemOrd [Sum.inl 0] [Sum.inl 1] = true by decide)
  | x :: l, [] => by
    rw [List.map_nil, List.map_cons, PySem.W.keyToksAll, PySem.W.keyToksAll]
    exact (PySem.W.lex_atom (by simp) _ _).trans (show PyProof.Rows.lexLt PyProof.Rows.itemOrd [Sum.inl 1] [Sum.inl 0] = false by decide)
  | x :: l, y :: m => by
    rw [List.map_cons, List.map_cons]
    show _ = if x = y then R.listLt l m else decide (x < y)
    by_cases h : x = y
    · subst h
      rw [if_pos rfl, PySem.W.dataLt_all_yes rfl (by simp [PyData.eqv]), lt_ints l m]
    · rw [if_neg h, PySem.W.dataLt_all_no rfl (by simpa [PyData.eqv] using h), PySem.W.dataLt_int]
theorem dataLt_dc (c d : R.Cell) : PySem.W.dataLt (dc c) (dc d) = R.cellLt c d := by
  unfold dc R.cellLt
  rw [PySem.W.dataLt_tuple]
  by_cases h1 : c.a = d.a
  · rw [if_pos h1, PySem.W.dataLt_all_yes rfl (by simp [PyData.eqv, h1])]
    by_cases h2 : c.b = d.b
    · rw [if_pos h2, PySem.W.dataLt_all_yes rfl (by simp [PyData.eqv, h2])]
      by_cases h3 : c.c = d.c
      · have e : PyData.eqv (dl c.c) (dl d.c) = true := by rw [eqv_dl]; exact decide_eq_true h3
        rw [PySem.W.dataLt_all_yes (by unfold dl; rw [PySem.W.alike]; exact alike_ints _ _) e, toks_nil_nil, h3]
        have : ∀ l : List Int, R.listLt l l = false := fun l => by
          induction l with
          | nil => rfl
          | cons x r ih => show (if x = x then R.listLt r r else decide (x < x)) = false; rw [if_pos rfl]; exact ih
        exact (this _).symm
      · have e : PyData.eqv (dl c.c) (dl d.c) = false := by rw [eqv_dl]; exact decide_eq_false h3
        rw [PySem.W.dataLt_all_no (by unfold dl; rw [PySem.W.alike]; exact alike_ints _ _) e]
        unfold dl
        rw [PySem.W.dataLt_list, lt_ints]
    · rw [if_neg h2, PySem.W.dataLt_all_no rfl (by simpa [PyData.eqv] using h2), PySem.W.dataLt_int]
  · rw [if_neg h1, PySem.W.dataLt_all_no rfl (by simpa [PyData.eqv] using h1), PySem.W.dataLt_int]
def rLtC (K : Fg) : R2 := fun x y H Q => ∃ c d : R.Cell, rep K H x c ∧ rep K H y d ∧ Q (.bl (R.cellLt c d)) H
theorem op_ltC {X : Cx} (hu : X.A.units + 64 < cLine) : OpR X (compareOp .Lt) (rLtC X.K) := by
  intro pins s σ H x y v u Q I rx ry h
  obtain ⟨c, d, h1, h2, q⟩ := h
  obtain ⟨as, r1⟩ := Dp.reads I (dc c) x v (dp_cell h1) rx
  obtain ⟨bs, r2⟩ := Dp.reads I (dc d) y u (dp_cell h2) ry
  have dep : ∀ c : R.Cell, (dc c).depth = 2 := fun c => by
    unfold dc dl
    rw [PyData.depth, PyData.depthAll, PyData.depthAll, PyData.depthAll, PyData.depth, PyData.depth, PyData.depth, depAll]
    rfl
  have z := PySem.W.rcLt_alike (dc c) (dc d) X.A s v u as bs r1 r2 (alike_dc c d) (by unfold dc; exact fun e => nomatch e) (by rw [dep, dep]; omega)
  rw [dataLt_dc] at z
  exact z X.prog X.w X.xe (EP X pins σ Q) ⟨.bl _, H, I, rfl, q⟩
theorem ev_ltC {K : Fg} {σ : L2.St} {F : Hp} {ta tb : TE} {c d : R.Cell} (ha : Ev K σ F ta c) (hb : Ev K σ F tb d) : Ev K σ F (tOp (rLtC K) ta tb) (R.cellLt c d) := ev_op ha hb fun F H v w e hv hw Q q =>
  ⟨c, d, Rep.mono e hv, Rep.mono e hw, q _ F H (Ext.refl e) rfl⟩

/-! ### every k-th item -/
def tStr (K : Fg) (te tl ts : TE) : TE := fun σ H Q => te σ H fun x H1 => tl σ H1 fun l H2 => ts σ H2 fun u H3 => ∃ a xs i k, x = .ref a ∧ l = .int i ∧ u = .int k ∧ 0 ≤ i ∧ 0 < k ∧ SqL K H3 a xs ∧ ∀ p, H3 p = none → Q (.ref p) (upd H3 p (.lst (R.stride i.toNat k.toNat xs)))
theorem stride_pick (its : List Value) (i k : Int) (hi : 0 ≤ i) (hk : 0 < k) : slicePick its.toArray (some i) none (some k) = (R.stride i.toNat k.toNat its).toArray := by
  unfold slicePick sliceBounds R.stride sliceRange
  have n0 : ¬ i < 0 := by omega
  simp only [Option.getD_some, show (k > 0) from hk, if_true, n0, if_false, List.size_toArray, List.filterMap_map]
  congr 1
  by_cases c : i < its.length
  · have e1 : max 0 (min i (its.length : Int)) = i := by omega
    rw [e1, if_pos c]
    have e2 : (((its.length : Int) - i + k - 1) / k).toNat = (its.length - i.toNat + (k.toNat - 1)) / k.toNat := by
      have e3 : (its.length : Int) - i + k - 1 = ((its.length - i.toNat + (k.toNat - 1) : Nat) : Int) := by omega
      have e4 : k = ((k.toNat : Nat) : Int) := by omega
      rw [e3]
      conv => lhs; rw [e4]
      rw [← Int.natCast_ediv, Int.toNat_natCast]
      congr 1
    rw [e2]
    congr 1
    funext j
    show its.toArray[(i + k * (j : Int)).toNat]? = its[i.toNat + j * k.toNat]?
    rw [List.getElem?_toArray]
    congr 1
    have e5 : i + k * (j : Int) = ((i.toNat + j * k.toNat : Nat) : Int) := by
      have e4 : k = ((k.toNat : Nat) : Int) := by omega
      have e6 : i = ((i.toNat : Nat) : Int) := by omega
      rw [Int.natCast_add, Int.natCast_mul, ← e4, ← e6, Int.mul_comm]
    rw [e5, Int.toNat_natCast]
  · have e1 : max 0 (min i (its.length : Int)) = (its.length : Int) := by omega
    rw [e1, if_neg (by omega)]
    have e2 : (its.length - i.toNat + (k.toNat - 1)) / k.toNat = 0 := Nat.div_eq_of_lt (by omega)
    rw [e2]
    rfl
theorem vals_filterMap {xs : List V} {us : List Value} (r : Vals xs us) (g : Nat → Nat) : ∀ ks : List Nat, Vals (ks.filterMap fun j => xs[g j]?) (ks.filterMap fun j => us[g j]?)
  | [] => .nil
  | j :: ks => by
    rw [List.filterMap_cons, List.filterMap_cons]
    cases e : xs[g j]? with
    | none =>
      rw [r.none_of e]
      exact vals_filterMap r g ks
    | some x =>
      obtain ⟨u, h1, h2⟩ := r.get e
      rw [h1]
      exact .cons h2 (vals_filterMap r g ks)
theorem stride_len {α : Type} (a k : Nat) (hk : 0 < k) (xs : List α) : (R.stride a k xs).length ≤ xs.length := by
  unfold R.stride
  refine Nat.le_trans (List.length_filterMap_le _ _) ?_
  rw [List.length_range]
  by_cases c : xs.length - a = 0
  · rw [c, Nat.div_eq_of_lt (by omega)]
    exact Nat.zero_le _
  · refine Nat.le_trans (m := xs.length - a) ?_ (by omega)
    rw [Nat.div_le_iff_le_mul_add_pred hk]
    have : xs.length - a ≤ k * (xs.length - a) := Nat.le_mul_of_pos_left _ hk
    omega
theorem pe_stride {X : Cx} {e lo st : Expr} {te tl ts : TE} {p2 pos : Pos} (he : PE X e te) (hl : PE X lo tl) (hs : PE X st ts) : PE X (.Subscript e (.Slice (some lo) none (some st) p2) pos) (tStr X.K te tl ts) := by
  refine ⟨fun pins s σ H Q I h => ?_⟩
  refine Subscript_ (thn (he.run pins s σ H _ I h) fun v s1 ⟨x, H1, I1, r1, q1⟩ => ?_)
  refine wpAny_Slice ?_
  rw [evalPart_some]
  refine thn (hl.run pins s1 σ H1 _ I1 q1) fun vl s2 ⟨l, H2, I2, pl, q2⟩ => ?_
  rw [evalPart_none]
  refine wpAny_pure ?_
  rw [evalPart_some]
  refine thn (hs.run pins s2 σ H2 _ I2 q2) fun vs s3 ⟨u, H3, I3, pu, q3⟩ => ?_
  obtain ⟨a, xs, i, k, rfl, rfl, rfl, hi, hk, hx, q⟩ := q3
  obtain rfl : v = Value.ref a := r1
  obtain ⟨t1, rfl⟩ := pl
  obtain ⟨t2, rfl⟩ := pu
  have I4 : Inv X pins σ H3 { s3 with heap := s3.heap.push { cls := .type "slice", data := .fields #[.int i t1, .none, .int k t2] } } := I3.kept (t' := s3.toks) fun b ob q => Heap.get?_push_of_some _ q
  obtain ⟨its, r, ht, hz⟩ := I4.list hx
  have hlen := r.length
  refine tail_any (ops := [.ref a, .ref s3.heap.objs.size]) ht.isList.typeIs slot_list_getitem.lookup ?_ (by with_unfolding_all rfl)
  refine wpAny_getItem_list_slice ht.isList (Heap.IsSliceOf.new ..) (.int i t1) .none (.int k t2) (by simp only [ne_eq, Option.some.injEq]; omega) ?_ (by rw [List.size_toArray] <;> omega)
  rw [stride_pick its i k hi hk]
  refine ⟨.ref _, _, I4.laid (t' := s3.toks) (o := .lst (R.stride i.toNat k.toNat xs)) (fun b ob q => Heap.get?_push_of_some _ q) (Nat.le_refl _) ?_, rfl, q _ (I4.hok.fresh (Nat.le_refl _))⟩
  refine ⟨?_, _, 0, ?_, Heap.get?_push_size _ rfl⟩
  · have h1 := stride_len i.toNat k.toNat (by omega) xs
    omega
  · unfold R.stride
    rw [hlen]
    exact vals_filterMap r (fun j => i.toNat + j * k.toNat) _
theorem en_stride {K : Fg} {σ : L2.St} {F : Hp} {te tl ts : TE} {α : Type} [Rep α] {l : List α} {i k : Int} (h : Ev K σ F te l) (h1 : Ev K σ F tl i) (h2 : Ev K σ F ts k) (hi : 0 ≤ i) (hk : 0 < k) : EvN K σ F (tStr K te tl ts) (R.stride i.toNat k.toNat l) := fun F1 H1 a b Q q =>
  h F1 H1 a b _ fun v F2 H2 e2 ⟨p, vs, ev, hv, av⟩ => h1 F2 H2 (a.trans e2.fF) e2.sub _ fun w F3 H3 e3 r3 => h2 F3 H3 ((a.trans e2.fF).trans e3.fF) e3.sub _ fun u F4 H4 e4 r4 =>
    ⟨p, vs, i, k, ev, r3, r4, hi, hk, sqL_of (e4.hH _ _ (e3.hH _ _ (e2.sub _ _ hv))), fun b hb => q b _ F4 _ (((e2.trans e3).trans e4).trans (Ext.newM e4.sub hb)) (((e2.trans e3).trans e4).hH.none hb) (e4.sub.none hb) upd_same (by
      have av' := av.imp (fun x y => Rep.mono (K := K) (v := x) (x := y) (e3.fF.trans e4.fF))
      unfold R.stride
      rw [av'.length]
      refine All2.filterMap _ fun j _ => ?_
      cases e : l[i.toNat + j * k.toNat]? with
      | none =>
        have : vs[i.toNat + j * k.toNat]? = none := by
          rw [List.getElem?_eq_none_iff] at e ⊢
          rw [av'.length]
          exact e
        rw [this]
        trivial
      | some y =>
        obtain ⟨x, hx, rx⟩ := av'.get e
        rw [hx]
        exact rx)⟩
end Ty
end
section
set_option Elab.async false
set_option linter.all false
set_option maxRecDepth 100000
set_option maxHeartbeats 2000000
/-! Promises of defs with one to five parameters. Printed by wip/arity.py. -/
namespace Ty
open PySem PySem.Spec PyProof.Rows L2
open Rep (rep)
theorem s_retE {K : Fg} {B : Bs} {F H : Hp} {σ : L2.St} {Γ : List Slot} {α : Type} [Rep α] {D : Ends} {te : TE} {x y : α} (st : Ok K B F H σ Γ) (h : EvA K σ F H te x) (e : x = y) (k : ∀ v F' H', Ext B.F0 B.H0 F' H' → rep K F' v y → D.rt v H') : tRet te D σ H := by
  subst e
  exact s_ret st h k
theorem s_retF {K : Fg} {B : Bs} {F H : Hp} {σ : L2.St} {Γ : List Slot} {α : Type} [Rep α] {D : Ends} {te : TE} {x y : α} (st : Ok K B F H σ Γ) (h : Ev K σ F te x) (e : x = y) (k : ∀ v F' H', Ext B.F0 B.H0 F' H' → rep K F' v y → D.rt v H') : tRet te D σ H := s_retE st (st.at h) e k
theorem s_retNE {K : Fg} {B : Bs} {F H : Hp} {σ : L2.St} {Γ : List Slot} {α : Type} [Rep α] {D : Ends} {te : TE} {l m : List α} (st : Ok K B F H σ Γ) (h : EvN K σ F te l) (e : l = m) (k : ∀ p vs F' H', Ext B.F0 B.H0 F' H' → B.H0 p = none → F' p = none → H' p = some (.lst vs) → All2 (rep K F') vs m → D.rt (.ref p) H') : tRet te D σ H := by
  subst e
  exact s_retN st h k
def Sp1 {α ρ : Type} [Rep α] [Rep ρ] (K : Fg) (pre : α → Prop) (g : α → ρ) : Sp := SpT K (fun i : α => [D i]) (fun i => pre i) (fun i => g i)
theorem ev_call1 {α ρ : Type} [Rep α] [Rep ρ] {K : Fg} {σ : L2.St} {F : Hp} {t0 : TE} {E : XK} {pre : α → Prop} {g : α → ρ} {x0 : α} (h0 : Ev K σ F t0 x0) (hp : pre x0) : Ev K σ F (tCall (Sp1 K pre g) [] E (tCons t0 tNil)) (g x0) := ev_call x0 (el_cons h0 el_nil) hp
theorem fn1 {α ρ : Type} [Rep α] [Rep ρ] {P : Program} {w : World} {K : Fg} {mg : Str → Option Value} {x : Str} {st : Stmt} {N ps : List Str} {k : Nat} {pre : α → Prop} {g : α → ρ} (hd : DefAt P K mg x st) (S : FnScope N ps (defScope st)) (hl : ps.length = 1)
    (hb : ∀ (kV doc pm : Value) (an : Option Addr) (cdv ct : Value) (us : List Value), us.length = ps.length → bindArgs (PySem.W.fnOf x x (defArgs st) (defBody st) (defScope st) .none kV doc pm an cdv ct) ⟨us, []⟩ = pure (ps.zip us))
    (body : ∀ (base : Heap) (f : Addr) (x0 : α), pre x0 → ∀ (cdv : Value) (A : Around) (outer : List Env) (s : Shared) (H : Hp) (E : XK), Room k (A.deeper (envOfC x (defScope st) s.heap.objs.size f cdv)) →
      ∃ t, PSs (cxOf CX0 P w K mg base N x (defScope st) f cdv A outer s H E).nox (defBody st) t ∧ ∀ (F0 : Hp) (σ : L2.St) (Q : VK), Ok K ⟨F0, H, F0⟩ F0 H σ (slots0 [D x0] N.length) → (∀ v F' H', Ext F0 H F' H' → rep K F' v (g x0) → Q v H') →
        t { nx := fun _ H' => Q .non H', rt := Q } σ H) : FnAt P w K mg x (k + 1) ps (Sp1 K pre g) :=
  fnT hd S (fun _ => hl.symm) hb fun base f i hp => body base f i hp
def Sn1 {α ρ : Type} [Rep α] [Rep ρ] (K : Fg) (pre : α → Prop) (g : α → List ρ) : Sp := SpN K (fun i : α => [D i]) (fun i => pre i) (fun i => g i)
theorem en_call1 {α ρ : Type} [Rep α] [Rep ρ] {K : Fg} {σ : L2.St} {F : Hp} {t0 : TE} {E : XK} {pre : α → Prop} {g : α → List ρ} {x0 : α} (h0 : Ev K σ F t0 x0) (hp : pre x0) : EvN K σ F (tCall (Sn1 K pre g) [] E (tCons t0 tNil)) (g x0) := en_call x0 (el_cons h0 el_nil) hp
theorem fnn1 {α ρ : Type} [Rep α] [Rep ρ] {P : Program} {w : World} {K : Fg} {mg : Str → Option Value} {x : Str} {st : Stmt} {N ps : List Str} {k : Nat} {pre : α → Prop} {g : α → List ρ} (hd : DefAt P K mg x st) (S : FnScope N ps (defScope st)) (hl : ps.length = 1)
    (hb : ∀ (kV doc pm : Value) (an : Option Addr) (cdv ct : Value) (us : List Value), us.length = ps.length → bindArgs (PySem.W.fnOf x x (defArgs st) (defBody st) (defScope st) .none kV doc pm an cdv ct) ⟨us, []⟩ = pure (ps.zip us))
    (body : ∀ (base : Heap) (f : Addr) (x0 : α), pre x0 → ∀ (cdv : Value) (A : Around) (outer : List Env) (s : Shared) (H : Hp) (E : XK), Room k (A.deeper (envOfC x (defScope st) s.heap.objs.size f cdv)) →
      ∃ t, PSs (cxOf CX0 P w K mg base N x (defScope st) f cdv A outer s H E).nox (defBody st) t ∧ ∀ (F0 : Hp) (σ : L2.St) (Q : VK), Ok K ⟨F0, H, F0⟩ F0 H σ (slots0 [D x0] N.length) → (∀ p us F' H', Ext F0 H F' H' → H p = none → F' p = none → H' p = some (.lst us) → All2 (rep K F') us (g x0) → Q (.ref p) H') →
        t { nx := fun _ H' => Q .non H', rt := Q } σ H) : FnAt P w K mg x (k + 1) ps (Sn1 K pre g) :=
  fnN hd S (fun _ => hl.symm) hb fun base f i hp => body base f i hp
def Sp2 {α β ρ : Type} [Rep α] [Rep β] [Rep ρ] (K : Fg) (pre : α → β → Prop) (g : α → β → ρ) : Sp := SpT K (fun i : α × β => [D i.1, D i.2]) (fun i => pre i.1 i.2) (fun i => g i.1 i.2)
theorem ev_call2 {α β ρ : Type} [Rep α] [Rep β] [Rep ρ] {K : Fg} {σ : L2.St} {F : Hp} {t0 t1 : TE} {E : XK} {pre : α → β → Prop} {g : α → β → ρ} {x0 : α} {x1 : β} (h0 : Ev K σ F t0 x0) (h1 : Ev K σ F t1 x1) (hp : pre x0 x1) : Ev K σ F (tCall (Sp2 K pre g) [] E (tCons t0 (tCons t1 tNil))) (g x0 x1) := ev_call (x0, x1) (el_cons h0 (el_cons h1 el_nil)) hp
theorem fn2 {α β ρ : Type} [Rep α] [Rep β] [Rep ρ] {P : Program} {w : World} {K : Fg} {mg : Str → Option Value} {x : Str} {st : Stmt} {N ps : List Str} {k : Nat} {pre : α → β → Prop} {g : α → β → ρ} (hd : DefAt P K mg x st) (S : FnScope N ps (defScope st)) (hl : ps.length = 2)
    (hb : ∀ (kV doc pm : Value) (an : Option Addr) (cdv ct : Value) (us : List Value), us.length = ps.length → bindArgs (PySem.W.fnOf x x (defArgs st) (defBody st) (defScope st) .none kV doc pm an cdv ct) ⟨us, []⟩ = pure (ps.zip us))
    (body : ∀ (base : Heap) (f : Addr) (x0 : α) (x1 : β), pre x0 x1 → ∀ (cdv : Value) (A : Around) (outer : List Env) (s : Shared) (H : Hp) (E : XK), Room k (A.deeper (envOfC x (defScope st) s.heap.objs.size f cdv)) →
      ∃ t, PSs (cxOf CX0 P w K mg base N x (defScope st) f cdv A outer s H E).nox (defBody st) t ∧ ∀ (F0 : Hp) (σ : L2.St) (Q : VK), Ok K ⟨F0, H, F0⟩ F0 H σ (slots0 [D x0, D x1] N.length) → (∀ v F' H', Ext F0 H F' H' → rep K F' v (g x0 x1) → Q v H') →
        t { nx := fun _ H' => Q .non H', rt := Q } σ H) : FnAt P w K mg x (k + 1) ps (Sp2 K pre g) :=
  fnT hd S (fun _ => hl.symm) hb fun base f i hp => body base f i.1 i.2 hp
def Sn2 {α β ρ : Type} [Rep α] [Rep β] [Rep ρ] (K : Fg) (pre : α → β → Prop) (g : α → β → List ρ) : Sp := SpN K (fun i : α × β => [D i.1, D i.2]) (fun i => pre i.1 i.2) (fun i => g i.1 i.2)
theorem en_call2 {α β ρ : Type} [Rep α] [Rep β] [Rep ρ] {K : Fg} {σ : L2.St} {F : Hp} {t0 t1 : TE} {E : XK} {pre : α → β → Prop} {g : α → β → List ρ} {x0 : α} {x1 : β} (h0 : Ev K σ F t0 x0) (h1 : Ev K σ F t1 x1) (hp : pre x0 x1) : EvN K σ F (tCall (Sn2 K pre g) [] E (tCons t0 (tCons t1 tNil))) (g x0 x1) := en_call (x0, x1) (el_cons h0 (el_cons h1 el_nil)) hp
theorem fnn2 {α β ρ : Type} [Rep α] [Rep β] [Rep ρ] {P : Program} {w : World} {K : Fg} {mg : Str → Option Value} {x : Str} {st : Stmt} {N ps : List Str} {k : Nat} {pre : α → β → Prop} {g : α → β → List ρ} (hd : DefAt P K mg x st) (S : FnScope N ps (defScope st)) (hl : ps.length = 2)
    (hb : ∀ (kV doc pm : Value) (an : Option Addr) (cdv ct : Value) (us : List Value), us.length = ps.length → bindArgs (PySem.W.fnOf x x (defArgs st) (defBody st) (defScope st) .none kV doc pm an cdv ct) ⟨us, []⟩ = pure (ps.zip us))
    (body : ∀ (base : Heap) (f : Addr) (x0 : α) (x1 : β), pre x0 x1 → ∀ (cdv : Value) (A : Around) (outer : List Env) (s : Shared) (H : Hp) (E : XK), Room k (A.deeper (envOfC x (defScope st) s.heap.objs.size f cdv)) →
      ∃ t, PSs (cxOf CX0 P w K mg base N x (defScope st) f cdv A outer s H E).nox (defBody st) t ∧ ∀ (F0 : Hp) (σ : L2.St) (Q : VK), Ok K ⟨F0, H, F0⟩ F0 H σ (slots0 [D x0, D x1] N.length) → (∀ p us F' H', Ext F0 H F' H' → H p = none → F' p = none → H' p = some (.lst us) → All2 (rep K F') us (g x0 x1) → Q (.ref p) H') →
        t { nx := fun _ H' => Q .non H', rt := Q } σ H) : FnAt P w K mg x (k + 1) ps (Sn2 K pre g) :=
  fnN hd S (fun _ => hl.symm) hb fun base f i hp => body base f i.1 i.2 hp
def Sp3 {α β γ ρ : Type} [Rep α] [Rep β] [Rep γ] [Rep ρ] (K : Fg) (pre : α → β → γ → Prop) (g : α → β → γ → ρ) : Sp := SpT K (fun i : α × β × γ => [D i.1, D i.2.1, D i.2.2]) (fun i => pre i.1 i.2.1 i.2.2) (fun i => g i.1 i.2.1 i.2.2)
theorem ev_call3 {α β γ ρ : Type} [Rep α] [Rep β] [Rep γ] [Rep ρ] {K : Fg} {σ : L2.St} {F : Hp} {t0 t1 t2 : TE} {E : XK} {pre : α → β → γ → Prop} {g : α → β → γ → ρ} {x0 : α} {x1 : β} {x2 : γ} (h0 : Ev K σ F t0 x0) (h1 : Ev K σ F t1 x1) (h2 : Ev K σ F t2 x2) (hp : pre x0 x1 x2) : Ev K σ F (tCall (Sp3 K pre g) [] E (tCons t0 (tCons t1 (tCons t2 tNil)))) (g x0 x1 x2) := ev_call (x0, x1, x2) (el_cons h0 (el_cons h1 (el_cons h2 el_nil))) hp
theorem fn3 {α β γ ρ : Type} [Rep α] [Rep β] [Rep γ] [Rep ρ] {P : Program} {w : World} {K : Fg} {mg : Str → Option Value} {x : Str} {st : Stmt} {N ps : List Str} {k : Nat} {pre : α → β → γ → Prop} {g : α → β → γ → ρ} (hd : DefAt P K mg x st) (S : FnScope N ps (defScope st)) (hl : ps.length = 3)
    (hb : ∀ (kV doc pm : Value) (an : Option Addr) (cdv ct : Value) (us : List Value), us.length = ps.length → bindArgs (PySem.W.fnOf x x (defArgs st) (defBody st) (defScope st) .none kV doc pm an cdv ct) ⟨us, []⟩ = pure (ps.zip us))
    (body : ∀ (base : Heap) (f : Addr) (x0 : α) (x1 : β) (x2 : γ), pre x0 x1 x2 → ∀ (cdv : Value) (A : Around) (outer : List Env) (s : Shared) (H : Hp) (E : XK), Room k (A.deeper (envOfC x (defScope st) s.heap.objs.size f cdv)) →
      ∃ t, PSs (cxOf CX0 P w K mg base N x (defScope st) f cdv A outer s H E).nox (defBody st) t ∧ ∀ (F0 : Hp) (σ : L2.St) (Q : VK), Ok K ⟨F0, H, F0⟩ F0 H σ (slots0 [D x0, D x1, D x2] N.length) → (∀ v F' H', Ext F0 H F' H' → rep K F' v (g x0 x1 x2) → Q v H') →
        t { nx := fun _ H' => Q .non H', rt := Q } σ H) : FnAt P w K mg x (k + 1) ps (Sp3 K pre g) :=
  fnT hd S (fun _ => hl.symm) hb fun base f i hp => body base f i.1 i.2.1 i.2.2 hp
def Sn3 {α β γ ρ : Type} [Rep α] [Rep β] [Rep γ] [Rep ρ] (K : Fg) (pre : α → β → γ → Prop) (g : α → β → γ → List ρ) : Sp := SpN K (fun i : α × β × γ => [D i.1, D i.2.1, D i.2.2]) (fun i => pre i.1 i.2.1 i.2.2) (fun i => g i.1 i.2.1 i.2.2)
theorem en_call3 {α β γ ρ : Type} [Rep α] [Rep β] [Rep γ] [Rep ρ] {K : Fg} {σ : L2.St} {F : Hp} {t0 t1 t2 : TE} {E : XK} {pre : α → β → γ → Prop} {g : α → β → γ → List ρ} {x0 : α} {x1 : β} {x2 : γ} (h0 : Ev K σ F t0 x0) (h1 : Ev K σ F t1 x1) (h2 : Ev K σ F t2 x2) (hp : pre x0 x1 x2) : EvN K σ F (tCall (Sn3 K pre g) [] E (tCons t0 (tCons t1 (tCons t2 tNil)))) (g x0 x1 x2) := en_call (x0, x1, x2) (el_cons h0 (el_cons h1 (el_cons h2 el_nil))) hp
theorem fnn3 {α β γ ρ : Type} [Rep α] [Rep β] [Rep γ] [Rep ρ] {P : Program} {w : World} {K : Fg} {mg : Str → Option Value} {x : Str} {st : Stmt} {N ps : List Str} {k : Nat} {pre : α → β → γ → Prop} {g : α → β → γ → List ρ} (hd : DefAt P K mg x st) (S : FnScope N ps (defScope st)) (hl : ps.length = 3)
    (hb : ∀ (kV doc pm : Value) (an : Option Addr) (cdv ct : Value) (us : List Value), us.length = ps.length → bindArgs (PySem.W.fnOf x x (defArgs st) (defBody st) (defScope st) .none kV doc pm an cdv ct) ⟨us, []⟩ = pure (ps.zip us))
    (body : ∀ (base : Heap) (f : Addr) (x0 : α) (x1 : β) (x2 : γ), pre x0 x1 x2 → ∀ (cdv : Value) (A : Around) (outer : List Env) (s : Shared) (H : Hp) (E : XK), Room k (A.deeper (envOfC x (defScope st) s.heap.objs.size f cdv)) →
      ∃ t, PSs (cxOf CX0 P w K mg base N x (defScope st) f cdv A outer s H E).nox (defBody st) t ∧ ∀ (F0 : Hp) (σ : L2.St) (Q : VK), Ok K ⟨F0, H, F0⟩ F0 H σ (slots0 [D x0, D x1, D x2] N.length) → (∀ p us F' H', Ext F0 H F' H' → H p = none → F' p = none → H' p = some (.lst us) → All2 (rep K F') us (g x0 x1 x2) → Q (.ref p) H') →
        t { nx := fun _ H' => Q .non H', rt := Q } σ H) : FnAt P w K mg x (k + 1) ps (Sn3 K pre g) :=
  fnN hd S (fun _ => hl.symm) hb fun base f i hp => body base f i.1 i.2.1 i.2.2 hp
def Sp4 {α β γ δ ρ : Type} [Rep α] [Rep β] [Rep γ] [Rep δ] [Rep ρ] (K : Fg) (pre : α → β → γ → δ → Prop) (g : α → β → γ → δ → ρ) : Sp := SpT K (fun i : α × β × γ × δ => [D i.1, D i.2.1, D i.2.2.1, D i.2.2.2]) (fun i => pre i.1 i.2.1 i.2.2.1 i.2.2.2) (fun i => g i.1 i.2.1 i.2.2.1 i.2.2.2)
theorem ev_call4 {α β γ δ ρ : Type} [Rep α] [Rep β] [Rep γ] [Rep δ] [Rep ρ] {K : Fg} {σ : L2.St} {F : Hp} {t0 t1 t2 t3 : TE} {E : XK} {pre : α → β → γ → δ → Prop} {g : α → β → γ → δ → ρ} {x0 : α} {x1 : β} {x2 : γ} {x3 : δ} (h0 : Ev K σ F t0 x0) (h1 : Ev K σ F t1 x1) (h2 : Ev K σ F t2 x2) (h3 : Ev K σ F t3 x3) (hp : pre x0 x1 x2 x3) : Ev K σ F (tCall (Sp4 K pre g) [] E (tCons t0 (tCons t1 (tCons t2 (tCons t3 tNil))))) (g x0 x1 x2 x3) := ev_call (x0, x1, x2, x3) (el_cons h0 (el_cons h1 (el_cons h2 (el_cons h3 el_nil)))) hp
theorem fn4 {α β γ δ ρ : Type} [Rep α] [Rep β] [Rep γ] [Rep δ] [Rep ρ] {P : Program} {w : World} {K : Fg} {mg : Str → Option Value} {x : Str} {st : Stmt} {N ps : List Str} {k : Nat} {pre : α → β → γ → δ → Prop} {g : α → β → γ → δ → ρ} (hd : DefAt P K mg x st) (S : FnScope N ps (defScope st)) (hl : ps.length = 4)
    (hb : ∀ (kV doc pm : Value) (an : Option Addr) (cdv ct : Value) (us : List Value), us.length = ps.length → bindArgs (PySem.W.fnOf x x (defArgs st) (defBody st) (defScope st) .none kV doc pm an cdv ct) ⟨us, []⟩ = pure (ps.zip us))
    (body : ∀ (base : Heap) (f : Addr) (x0 : α) (x1 : β) (x2 : γ) (x3 : δ), pre x0 x1 x2 x3 → ∀ (cdv : Value) (A : Around) (outer : List Env) (s : Shared) (H : Hp) (E : XK), Room k (A.deeper (envOfC x (defScope st) s.heap.objs.size f cdv)) →
      ∃ t, PSs (cxOf CX0 P w K mg base N x (defScope st) f cdv A outer s H E).nox (defBody st) t ∧ ∀ (F0 : Hp) (σ : L2.St) (Q : VK), Ok K ⟨F0, H, F0⟩ F0 H σ (slots0 [D x0, D x1, D x2, D x3] N.length) → (∀ v F' H', Ext F0 H F' H' → rep K F' v (g x0 x1 x2 x3) → Q v H') →
        t { nx := fun _ H' => Q .non H', rt := Q } σ H) : FnAt P w K mg x (k + 1) ps (Sp4 K pre g) :=
  fnT hd S (fun _ => hl.symm) hb fun base f i hp => body base f i.1 i.2.1 i.2.2.1 i.2.2.2 hp
def Sn4 {α β γ δ ρ : Type} [Rep α] [Rep β] [Rep γ] [Rep δ] [Rep ρ] (K : Fg) (pre : α → β → γ → δ → Prop) (g : α → β → γ → δ → List ρ) : Sp := SpN K (fun i : α × β × γ × δ => [D i.1, D i.2.1, D i.2.2.1, D i.2.2.2]) (fun i => pre i.1 i.2.1 i.2.2.1 i.2.2.2) (fun i => g i.1 i.2.1 i.2.2.1 i.2.2.2)
theorem en_call4 {α β γ δ ρ : Type} [Rep α] [Rep β] [Rep γ] [Rep δ] [Rep ρ] {K : Fg} {σ : L2.St} {F : Hp} {t0 t1 t2 t3 : TE} {E : XK} {pre : α → β → γ → δ → Prop} {g : α → β → γ → δ → List ρ} {x0 : α} {x1 : β} {x2 : γ} {x3 : δ} (h0 : Ev K σ F t0 x0) (h1 : Ev K σ F t1 x1) (h2 : Ev K σ F t2 x2) (h3 : Ev K σ F t3 x3) (hp : pre x0 x1 x2 x3) : EvN K σ F (tCall (Sn4 K pre g) [] E (tCons t0 (tCons t1 (tCons t2 (tCons t3 tNil))))) (g x0 x1 x2 x3) := en_call (x0, x1, x2, x3) (el_cons h0 (el_cons h1 (el_cons h2 (el_cons h3 el_nil)))) hp
theorem fnn4 {α β γ δ ρ : Type} [Rep α] [Rep β] [Rep γ] [Rep δ] [Rep ρ] {P : Program} {w : World} {K : Fg} {mg : Str → Option Value} {x : Str} {st : Stmt} {N ps : List Str} {k : Nat} {pre : α → β → γ → δ → Prop} {g : α → β → γ → δ → List ρ} (hd : DefAt P K mg x st) (S : FnScope N ps (defScope st)) (hl : ps.length = 4)
    (hb : ∀ (kV doc pm : Value) (an : Option Addr) (cdv ct : Value) (us : List Value), us.length = ps.length → bindArgs (PySem.W.fnOf x x (defArgs st) (defBody st) (defScope st) .none kV doc pm an cdv ct) ⟨us, []⟩ = pure (ps.zip us))
    (body : ∀ (base : Heap) (f : Addr) (x0 : α) (x1 : β) (x2 : γ) (x3 : δ), pre x0 x1 x2 x3 → ∀ (cdv : Value) (A : Around) (outer : List Env) (s : Shared) (H : Hp) (E : XK), Room k (A.deeper (envOfC x (defScope st) s.heap.objs.size f cdv)) →
      ∃ t, PSs (cxOf CX0 P w K mg base N x (defScope st) f cdv A outer s H E).nox (defBody st) t ∧ ∀ (F0 : Hp) (σ : L2.St) (Q : VK), Ok K ⟨F0, H, F0⟩ F0 H σ (slots0 [D x0, D x1, D x2, D x3] N.length) → (∀ p us F' H', Ext F0 H F' H' → H p = none → F' p = none → H' p = some (.lst us) → All2 (rep K F') us (g x0 x1 x2 x3) → Q (.ref p) H') →
        t { nx := fun _ H' => Q .non H', rt := Q } σ H) : FnAt P w K mg x (k + 1) ps (Sn4 K pre g) :=
  fnN hd S (fun _ => hl.symm) hb fun base f i hp => body base f i.1 i.2.1 i.2.2.1 i.2.2.2 hp
def Sp5 {α β γ δ ε ρ : Type} [Rep α] [Rep β] [Rep γ] [Rep δ] [Rep ε] [Rep ρ] (K : Fg) (pre : α → β → γ → δ → ε → Prop) (g : α → β → γ → δ → ε → ρ) : Sp := SpT K (fun i : α × β × γ × δ × ε => [D i.1, D i.2.1, D i.2.2.1, D i.2.2.2.1, D i.2.2.2.2]) (fun i => pre i.1 i.2.1 i.2.2.1 i.2.2.2.1 i.2.2.2.2) (fun i => g i.1 i.2.1 i.2.2.1 i.2.2.2.1 i.2.2.2.2)
theorem ev_call5 {α β γ δ ε ρ : Type} [Rep α] [Rep β] [Rep γ] [Rep δ] [Rep ε] [Rep ρ] {K : Fg} {σ : L2.St} {F : Hp} {t0 t1 t2 t3 t4 : TE} {E : XK} {pre : α → β → γ → δ → ε → Prop} {g : α → β → γ → δ → ε → ρ} {x0 : α} {x1 : β} {x2 : γ} {x3 : δ} {x4 : ε} (h0 : Ev K σ F t0 x0) (h1 : Ev K σ F t1 x1) (h2 : Ev K σ F t2 x2) (h3 : Ev K σ F t3 x3) (h4 : Ev K σ F t4 x4) (hp : pre x0 x1 x2 x3 x4) : Ev K σ F (tCall (Sp5 K pre g) [] E (tCons t0 (tCons t1 (tCons t2 (tCons t3 (tCons t4 tNil)))))) (g x0 x1 x2 x3 x4) := ev_call (x0, x1, x2, x3, x4) (el_cons h0 (el_cons h1 (el_cons h2 (el_cons h3 (el_cons h4 el_nil))))) hp
theorem fn5 {α β γ δ ε ρ : Type} [Rep α] [Rep β] [Rep γ] [Rep δ] [Rep ε] [Rep ρ] {P : Program} {w : World} {K : Fg} {mg : Str → Option Value} {x : Str} {st : Stmt} {N ps : List Str} {k : Nat} {pre : α → β → γ → δ → ε → Prop} {g : α → β → γ → δ → ε → ρ} (hd : DefAt P K mg x st) (S : FnScope N ps (defScope st)) (hl : ps.length = 5)
    (hb : ∀ (kV doc pm : Value) (an : Option Addr) (cdv ct : Value) (us : List Value), us.length = ps.length → bindArgs (PySem.W.fnOf x x (defArgs st) (defBody st) (defScope st) .none kV doc pm an cdv ct) ⟨us, []⟩ = pure (ps.zip us))
    (body : ∀ (base : Heap) (f : Addr) (x0 : α) (x1 : β) (x2 : γ) (x3 : δ) (x4 : ε), pre x0 x1 x2 x3 x4 → ∀ (cdv : Value) (A : Around) (outer : List Env) (s : Shared) (H : Hp) (E : XK), Room k (A.deeper (envOfC x (defScope st) s.heap.objs.size f cdv)) →
      ∃ t, PSs (cxOf CX0 P w K mg base N x (defScope st) f cdv A outer s H E).nox (defBody st) t ∧ ∀ (F0 : Hp) (σ : L2.St) (Q : VK), Ok K ⟨F0, H, F0⟩ F0 H σ (slots0 [D x0, D x1, D x2, D x3, D x4] N.length) → (∀ v F' H', Ext F0 H F' H' → rep K F' v (g x0 x1 x2 x3 x4) → Q v H') →
        t { nx := fun _ H' => Q .non H', rt := Q } σ H) : FnAt P w K mg x (k + 1) ps (Sp5 K pre g) :=
  fnT hd S (fun _ => hl.symm) hb fun base f i hp => body base f i.1 i.2.1 i.2.2.1 i.2.2.2.1 i.2.2.2.2 hp
def Sn5 {α β γ δ ε ρ : Type} [Rep α] [Rep β] [Rep γ] [Rep δ] [Rep ε] [Rep ρ] (K : Fg) (pre : α → β → γ → δ → ε → Prop) (g : α → β → γ → δ → ε → List ρ) : Sp := SpN K (fun i : α × β × γ × δ × ε => [D i.1, D i.2.1, D i.2.2.1, D i.2.2.2.1, D i.2.2.2.2]) (fun i => pre i.1 i.2.1 i.2.2.1 i.2.2.2.1 i.2.2.2.2) (fun i => g i.1 i.2.1 i.2.2.1 i.2.2.2.1 i.2.2.2.2)
theorem en_call5 {α β γ δ ε ρ : Type} [Rep α] [Rep β] [Rep γ] [Rep δ] [Rep ε] [Rep ρ] {K : Fg} {σ : L2.St} {F : Hp} {t0 t1 t2 t3 t4 : TE} {E : XK} {pre : α → β → γ → δ → ε → Prop} {g : α → β → γ → δ → ε → List ρ} {x0 : α} {x1 : β} {x2 : γ} {x3 : δ} {x4 : ε} (h0 : Ev K σ F t0 x0) (h1 : Ev K σ F t1 x1) (h2 : Ev K σ F t2 x2) (h3 : Ev K σ F t3 x3) (h4 : Ev K σ F t4 x4) (hp : pre x0 x1 x2 x3 x4) : EvN K σ F (tCall (Sn5 K pre g) [] E (tCons t0 (tCons t1 (tCons t2 (tCons t3 (tCons t4 tNil)))))) (g x0 x1 x2 x3 x4) := en_call (x0, x1, x2, x3, x4) (el_cons h0 (el_cons h1 (el_cons h2 (el_cons h3 (el_cons h4 el_nil))))) hp
theorem fnn5 {α β γ δ ε ρ : Type} [Rep α] [Rep β] [Rep γ] [Rep δ] [Rep ε] [Rep ρ] {P : Program} {w : World} {K : Fg} {mg : Str → Option Value} {x : Str} {st : Stmt} {N ps : List Str} {k : Nat} {pre : α → β → γ → δ → ε → Prop} {g : α → β → γ → δ → ε → List ρ} (hd : DefAt P K mg x st) (S : FnScope N ps (defScope st)) (hl : ps.length = 5)
    (hb : ∀ (kV doc pm : Value) (an : Option Addr) (cdv ct : Value) (us : List Value), us.length = ps.length → bindArgs (PySem.W.fnOf x x (defArgs st) (defBody st) (defScope st) .none kV doc pm an cdv ct) ⟨us, []⟩ = pure (ps.zip us))
    (body : ∀ (base : Heap) (f : Addr) (x0 : α) (x1 : β) (x2 : γ) (x3 : δ) (x4 : ε), pre x0 x1 x2 x3 x4 → ∀ (cdv : Value) (A : Around) (outer : List Env) (s : Shared) (H : Hp) (E : XK), Room k (A.deeper (envOfC x (defScope st) s.heap.objs.size f cdv)) →
      ∃ t, PSs (cxOf CX0 P w K mg base N x (defScope st) f cdv A outer s H E).nox (defBody st) t ∧ ∀ (F0 : Hp) (σ : L2.St) (Q : VK), Ok K ⟨F0, H, F0⟩ F0 H σ (slots0 [D x0, D x1, D x2, D x3, D x4] N.length) → (∀ p us F' H', Ext F0 H F' H' → H p = none → F' p = none → H' p = some (.lst us) → All2 (rep K F') us (g x0 x1 x2 x3 x4) → Q (.ref p) H') →
        t { nx := fun _ H' => Q .non H', rt := Q } σ H) : FnAt P w K mg x (k + 1) ps (Sn5 K pre g) :=
  fnN hd S (fun _ => hl.symm) hb fun base f i hp => body base f i.1 i.2.1 i.2.2.1 i.2.2.2.1 i.2.2.2.2 hp
end Ty
end
section
set_option Elab.async false
set_option linter.all false
set_option maxRecDepth 100000
set_option maxHeartbeats 4000000
/-! What the walk leans on: the text, what the head hands over. -/
namespace Wk
open PySem PySem.Spec PyProof.Rows L2 Ty
open Rep (rep)
abbrev P : Program := PySem.Challenge.rw_reportlayout_s01_answers.prog
def top (i : Nat) : Stmt := P.main.body.getD i (.Pass ⟨0, 0, 0, 0⟩)
def defN0 : List (Nat × Str) := [(1, "signs"), (2, "repeated"), (3, "is_text_byte"), (4, "is_text"), (5, "single_line"), (6, "shortened"), (7, "filled_behind"), (8, "filled_before"), (9, "parts"), (10, "joined"), (11, "solid_places"), (12, "without_last_spaces")]
def defN1 : List (Nat × Str) := [(13, "without_outer_spaces"), (14, "decimal"), (15, "sign_length"), (16, "is_decimal"), (17, "decimal_value"), (18, "listed"), (21, "number_cell"), (22, "text_cell"), (23, "is_number"), (24, "cell_at"), (25, "decoded"), (26, "encoded")]
def defN2 : List (Nat × Str) := [(27, "is_plain"), (28, "quoted"), (29, "printed"), (31, "scaled"), (32, "counted"), (33, "point_byte"), (34, "row_label"), (35, "plot_rows"), (36, "scale_lines"), (37, "plot_lines"), (38, "bar_line"), (39, "bar_lines")]
def defN3 : List (Nat × Str) := [(41, "row_total"), (42, "row_cells"), (43, "natural_width"), (44, "natural_widths"), (45, "visible_total"), (46, "narrowed"), (47, "fitting_widths"), (48, "ruler"), (49, "filled_cell"), (50, "table_row"), (51, "framed"), (52, "table_lines")]
def defN4 : List (Nat × Str) := [(53, "full_text"), (54, "stays_ahead"), (55, "inserted"), (56, "sorted_cells"), (57, "chosen_cells"), (59, "heading_lines"), (60, "check_lines"), (61, "words_of"), (62, "wrapped"), (63, "paragraph_lines"), (64, "item_lines"), (67, "row_forms")]
def defN5 : List (Nat × Str) := [(68, "unquoted"), (69, "number_read"), (70, "cell_read"), (71, "cells_read"), (72, "forms_read"), (73, "table_read"), (75, "document"), (76, "chunks"), (77, "divided"), (78, "finished"), (79, "put"), (80, "pages")]
def defN6 : List (Nat × Str) := [(83, "refused"), (84, "new_heading"), (85, "new_paragraph"), (86, "new_table"), (87, "new_plot"), (88, "new_check"), (89, "new_bars"), (90, "new_table_from"), (91, "new_item"), (92, "added"), (93, "is_missing"), (94, "is_no_width")]
def defN7 : List (Nat × Str) := [(95, "table_error"), (96, "removed"), (97, "moved"), (98, "with_table"), (99, "sorted_rows"), (100, "selected"), (101, "changed"), (102, "told_lines"), (103, "told_document"), (104, "told_pages"), (105, "told_widths"), (106, "told_kinds")]
def defN8 : List (Nat × Str) := [(107, "told_cells"), (108, "asked"), (109, "performed"), (113, "call_at"), (114, "answers")]
def defNames : List (Nat × Str) := defN0 ++ defN1 ++ defN2 ++ defN3 ++ defN4 ++ defN5 ++ defN6 ++ defN7 ++ defN8
def meanings (b : Int) : Option Int := if b = 110 then some 10 else if b = 112 then some 124 else if b = 116 then some 126 else none
def arities : List Int := [1, 0, 1, 1, 1, 0, 1, 2, 3, 1, 2, 1, 2, 2, 0, 0, 1]
def withLists : List Int := [0, 1, 2, 3, 4, 5, 9, 14]
structure Env (K : Fg) (mg : Str → Option Value) : Prop where
  defs : ∀ (k i : Nat) (x : Str), defNames[k]? = some (i, x) → DefAt P K mg x (top i)
  free : ∀ x ∈ (["all", "any", "enumerate", "len", "list", "max", "min", "ord", "range", "str", "sum", "zip"] : List Str), mg x = none
  big : ∃ t, mg "BIG" = some (.int 1000000000000000000 t)
  esc : ∃ a, mg "ESCAPES" = some (.ref a) ∧ DictK K a R.escapes
  mea : ∃ a, mg "MEANINGS" = some (.ref a) ∧ DictK K a meanings
  wl : ∃ a, mg "WITH_LIST" = some (.ref a) ∧ ∀ H : Hp, SqT K H a (withLists.map V.int)
  arg : ∃ a, mg "ARGUMENTS" = some (.ref a) ∧ ∀ H : Hp, SqT K H a (arities.map V.int)
/-! ### small words -/
section
variable {K : Fg} {σ : L2.St} {F : Hp} {te ta tb : TE} {t : TT}
theorem ev_ite {α : Type} [Rep α] {b : Bool} {x y : α} (h : EvT K σ F t b) (h1 : b = true → Ev K σ F ta x) (h2 : b = false → Ev K σ F tb y) : Ev K σ F (tIf t ta tb) (if b = true then x else y) :=
  ev_if h (fun e => by rw [if_pos e]; exact h1 e) fun e => by rw [if_neg (by rw [e]; decide)]; exact h2 e
theorem as_head {l : Int} {t : R.B} (h : Ev K σ F te (R.T3.mk (0 : Int) l t)) : Ev K σ F te (R.Item.head l t) := h
theorem as_para {t : R.B} (h : Ev K σ F te (R.T3.mk (1 : Int) (0 : Int) t)) : Ev K σ F te (R.Item.para t) := h
theorem as_tab {n : Int} {cs : List R.Cell} (h : Ev K σ F te (R.T3.mk (2 : Int) n cs)) : Ev K σ F te (R.Item.tab n cs) := h
theorem as_plot {n : Int} {t : R.B} (h : Ev K σ F te (R.T3.mk (3 : Int) n t)) : Ev K σ F te (R.Item.plot n t) := h
theorem as_check {n : Int} {t : R.B} (h : Ev K σ F te (R.T3.mk (4 : Int) n t)) : Ev K σ F te (R.Item.check n t) := h
theorem as_bars {cs : List R.Cell} (h : Ev K σ F te (R.T3.mk (5 : Int) (0 : Int) cs)) : Ev K σ F te (R.Item.bars cs) := h
theorem cmul_r {i j : Int} (h : -1000000 ≤ j ∧ j ≤ 1000000) : CMul i j := .inr ⟨by omega, by omega⟩
theorem cmul_l {i j : Int} (h : -1000000 ≤ i ∧ i ≤ 1000000) : CMul i j := .inl ⟨by omega, by omega⟩
end
theorem cdiv_of {i j : Int} (h : 0 < j) (h2 : j < 1267650600228229401496703205376) : CDivW i j := wide_div h (Nat.lt_of_lt_of_le (show j.natAbs < 1267650600228229401496703205376 by omega) (by decide : 1267650600228229401496703205376 ≤ 2 ^ 100)) (by decide) (by decide)
theorem rg_down {h : Int} (h1 : 1 ≤ h) (h2 : h ≤ 1000) : RgC (h - 1) (-1) (-1) h.toNat := by
  have z := RgC.neg (i := h - 1) (j := -1) (by omega) (by omega) (by decide) (by decide)
  rw [show (h - 1 - -1).toNat = h.toNat by omega] at z
  exact z
theorem rg_up {n k : Nat} (hn : n ≤ 1000000000) (hk : 0 < k) (hk2 : k ≤ 1000000) : RgC 0 (n : Int) (k : Int) ((n + (k - 1)) / k) := by
  have e : Builtin.Range.rangeSize 0 (n : Int) (k : Int) = (((n + (k - 1)) / k : Nat) : Int) := by
    unfold Builtin.Range.rangeSize
    rw [if_pos (show (k : Int) > 0 by omega)]
    by_cases c : n = 0
    · subst c
      rw [if_neg (by decide), show (0 + (k - 1)) / k = 0 from Nat.div_eq_of_lt (by omega)]
      rfl
    · rw [if_pos (show (0 : Int) < (n : Int) by omega), show n + (k - 1) = (n - 1) + k by omega, Nat.add_div_right _ hk]
      rw [show (n : Int) - 0 - 1 = ((n - 1 : Nat) : Int) by omega, ← Int.natCast_ediv]
      rfl
  refine ⟨by omega, by omega, ?_, e⟩
  unfold Builtin.Range.small
  rw [e]
  have h3 : (n + (k - 1)) / k ≤ n + (k - 1) := Nat.div_le_self _ _
  generalize (n + (k - 1)) / k = m at h3
  have hk3 : (k : Int) > 0 := by omega
  simp only [Builtin.Range.rangeFitsLong, Bool.and_eq_true, Bool.or_eq_true, decide_eq_true_eq, beq_iff_eq, hk3, if_true]
  omega
theorem len_of {X : Cx} {K : Fg} (h : X.K = K) : CallR X (.builtin "len") (fun xs H Q => ∃ p ys, xs = [.ref p] ∧ (SqL K H p ys ∨ SqT K H p ys) ∧ Q (.int ys.length) H) := by
  subst h
  exact call_len_seq
theorem ixl_of {X : Cx} {K : Fg} (h : X.K = K) : IxR X (rIxL K) := by
  subst h
  exact ix_list
theorem ixt_of {X : Cx} {K : Fg} (h : X.K = K) : IxR X (rIxT K) := by
  subst h
  exact ix_tup
theorem sll_of {X : Cx} {K : Fg} (h : X.K = K) : SlR X (rSlL K) := by
  subst h
  exact sl_list
theorem atD {l : List Int} {i : Int} (h0 : 0 ≤ i) (h : i < l.length) : atI l i = some (l.getD i.toNat 0) := atI_nat' h0 (R.getD_some (by omega))
theorem atC {l : List R.Cell} {i : Int} (h0 : 0 ≤ i) (h : i < l.length) : atI l i = some (R.at0 l i) := atI_nat' h0 (by
  unfold R.at0
  rw [List.getD_eq_getElem?_getD, List.getElem?_eq_getElem (show i.toNat < l.length by omega)]
  rfl)
theorem meaning_of (b : Int) : (meanings b).getD b = R.meaning b := by
  unfold meanings R.meaning
  split
  · rfl
  · split
    · rfl
    · split
      · rfl
      · rfl
theorem atS {s : List R.Item} {i : Int} (h : R.isMissing s i = false) : atI s i = some (R.itemOf s i) := by
  obtain ⟨a, b⟩ := R.missing_false h
  refine atI_nat' a ?_
  unfold R.itemOf
  rw [List.getD_eq_getElem?_getD, List.getElem?_eq_getElem (show i.toNat < s.length by omega)]
  rfl
def callG (l : Frz) (a : Int) : R.T4 Int R.B R.B Int := ⟨(R.call1 (l.l.drop a.toNat)).a, (R.call1 (l.l.drop a.toNat)).b, (R.call1 (l.l.drop a.toNat)).c, a + ((R.call1 (l.l.drop a.toNat)).d : Int)⟩
theorem arity_of {c : Int} (h0 : 0 ≤ c) (h1 : c ≤ 16) : atI arities c = some (R.arity c : Int) := by
  obtain ⟨n, rfl⟩ : ∃ n : Nat, c = n := ⟨c.toNat, by omega⟩
  refine atI_nat ?_
  have hn : n < 17 := by omega
  have : ∀ n : Nat, n < 17 → arities[n]? = some (R.arity (n : Int) : Int) := by decide
  exact this n hn
theorem withList_of {c : Int} (h0 : 0 ≤ c) (h1 : c ≤ 16) : withLists.contains c = R.withList c := rfl
def codes (s : Str) : R.B := s.cps.toList.map fun c : Nat => (c : Int)
theorem codesOf (s : String) : codes (Str.ofString s) = R.signs s := by
  unfold codes R.signs
  rw [Str.ofString_eq_toList, List.map_map]
  rfl
end Wk
end
section
set_option Elab.async false
set_option linter.all false
set_option maxRecDepth 100000
set_option maxHeartbeats 4000000
/-! The head's Hook with one more Bool; an int dict of the module by its entries; the walk's end where the written part comes from the Hook. -/
namespace Hx
open PySem PySem.Spec PySem.Calls PyProof.Rows L2
/-! ### a dict from numbers to numbers -/
def entB : List (Int × Int) → List DictEntry → Bool
  | [], [] => true
  | (k, v) :: r, ⟨h, .int i _, .int j _⟩ :: s => decide (h = hashInt k) && (decide (i = k) && (decide (j = v) && entB r s))
  | _, _ => false
def dicB (K : PySem.W.Frag) (x : Str) (ps : List (Int × Int)) : Bool := match K.lookup (He.ga K x) with
  | some ⟨.type c, none, .dict es _, sl⟩ => decide (c = "dict") && (sl.isEmpty && (!(He.ga K x == sysModules) && entB ps es.toList))
  | _ => false
theorem entB_all : ∀ {ps : List (Int × Int)} {es : List DictEntry}, entB ps es = true → ∀ e ∈ es, ∃ k : Int, Value.isInt k e.key = true ∧ e.hash = hashInt k
  | [], [], _, e, he => absurd he List.not_mem_nil
  | (k, v) :: r, ⟨h, .int i t, .int j u⟩ :: s, hb, e, he => by
    obtain ⟨h1, h2⟩ := He.ba (show (decide (h = hashInt k) && (decide (i = k) && (decide (j = v) && entB r s))) = true from hb)
    obtain ⟨h3, h4⟩ := He.ba h2
    obtain ⟨h5, h6⟩ := He.ba h4
    rcases List.mem_cons.mp he with rfl | he
    · exact ⟨k, by show (i == k) = true; rw [of_decide_eq_true h3]; exact beq_self_eq_true k, of_decide_eq_true h1⟩
    · exact entB_all h6 e he
  | [], _ :: _, hb, _, _ => by cases hb
  | _ :: _, [], hb, _, _ => by cases hb
theorem entB_find : ∀ {ps : List (Int × Int)} {es : List DictEntry}, entB ps es = true → ∀ k : Int,
    (∃ u v, (es.find? fun e => Value.isInt k e.key).map (·.val) = some u ∧ ps.lookup k = some v ∧ RelV (.int v) u) ∨ ((es.find? fun e => Value.isInt k e.key).map (·.val) = none ∧ ps.lookup k = none)
  | [], [], _, k => .inr ⟨rfl, rfl⟩
  | (m, v) :: r, ⟨h, .int i t, .int j u⟩ :: s, hb, k => by
    obtain ⟨h1, h2⟩ := He.ba (show (decide (h = hashInt m) && (decide (i = m) && (decide (j = v) && entB r s))) = true from hb)
    obtain ⟨h3, h4⟩ := He.ba h2
    obtain ⟨h5, h6⟩ := He.ba h4
    have e1 := of_decide_eq_true h3
    have e2 := of_decide_eq_true h5
    subst e1
    subst e2
    rw [List.find?_cons, List.lookup_cons]
    by_cases c : i = k
    · subst c
      rw [show Value.isInt i (Value.int i t) = true from beq_self_eq_true i, beq_self_eq_true]
      exact .inl ⟨_, _, rfl, rfl, ⟨_, rfl⟩⟩
    · rw [show Value.isInt k (Value.int i t) = false from beq_false_of_ne c, beq_false_of_ne (Ne.symm c)]
      exact entB_find h6 k
  | [], _ :: _, hb, _ => by cases hb
  | _ :: _, [], hb, _ => by cases hb
theorem dicB_ok {K : PySem.W.Frag} {x : Str} {ps : List (Int × Int)} (h : dicB K x ps = true) {f : Int → Option Int} (hf : ∀ k, f k = ps.lookup k) : Ty.DictK K (He.ga K x) f := by
  unfold dicB at h
  cases q : K.lookup (He.ga K x) with
  | none => rw [q] at h; cases h
  | some o =>
    rw [q] at h
    obtain ⟨oc, od, dt, osl⟩ := o
    cases oc with
    | type c =>
      cases od with
      | none =>
        cases dt with
        | dict es n =>
          obtain ⟨h1, h2⟩ := He.ba (show (decide (c = "dict") && (osl.isEmpty && (!(He.ga K x == sysModules) && entB ps es.toList))) = true from h)
          obtain ⟨h3, h4⟩ := He.ba h2
          obtain ⟨h5, h6⟩ := He.ba h4
          have e1 := of_decide_eq_true h1
          subst e1
          refine ⟨_, es, n, q, ⟨rfl, rfl, Array.isEmpty_iff.mp h3⟩, rfl, by simpa using h5, fun e he => entB_all h6 e (Array.mem_toList_iff.mpr he), fun k => ?_⟩
          have z := entB_find h6 k
          unfold findBy
          rw [hf k, ← Array.find?_toList]
          exact z
        | _ => cases h
      | some d => cases dt <;> cases h
    | _ => cases od <;> cases dt <;> cases h
/-! ### the Hook -/
abbrev AlE : Type := He.AlD × Bool
def obsE (fa : List He.Fa) (fn : List He.DefD) (ex : PySem.W.Frag → Bool) (K : PySem.W.Frag) : AlE := (He.obsD fa fn K, ex K)
def obsEG (n : Nat) (fa : List He.Fa) (fn : List He.DefD) (ex : PySem.W.Frag → Bool) (g : Addr → Option Obj) : AlE := obsE fa fn ex (He.frG g (He.asD g n))
def hookE (n : Nat) (fa : List He.Fa) (fn : List He.DefD) (ex : PySem.W.Frag → Bool) : PySem.W.Hook where
  α := AlE
  obs := fun s => obsEG n fa fn ex s.heap.get?
  val := fun _ => (He.valD fn, true)
  says := fun _ h => ∃ K : PySem.W.Frag, K.In h ∧ He.SaysD fa fn K ∧ ex K = true
  of := fun _ _ e => ⟨_, He.frG_in, congrArg Prod.fst e, congrArg Prod.snd e⟩
  keeps := fun _ _ _ ⟨K, hK, c⟩ k => ⟨K, PySem.W.Frag.In.keeps hK k, c⟩
theorem obsEG_eq {n : Nat} {fa : List He.Fa} {fn : List He.DefD} {ex : PySem.W.Frag → Bool} {g : Addr → Option Obj} {s : Shared} (h : ∀ a, g a = s.heap.get? a) : obsEG n fa fn ex g = (hookE n fa fn ex).obs s := by
  have e : g = s.heap.get? := funext h
  rw [e] <;> rfl
/-! ### the end -/
theorem walk_specX {r : PySem.W.OpenSpec} {k : Nat} {q : Program} {loose : List Str} {XP : (Str → Option Value) → Heap → Prop} {YP : World → Heap → Prop} {d : DefRec} {CX : CXT} {ps : List Str}
    (hwell : r.wellSaid = true) (hdf : d.params.defaults = []) (hlen : r.args.length = ps.length) (hr : Room k callerA)
    (F : ∀ (w : World) (mg : Str → Option Value) (fa : Addr) (h : Heap), YP w h → h.Ns mainGlobals mg → mg d.name = some (.ref fa) →
      ∃ (K : PySem.W.Frag) (sp : Sp) (fd : FuncData), K.In h ∧ (∀ (s : Shared) (us : List Value), us.length = ps.length → BindsTo s fd ⟨us, []⟩ (ps.zip us)) ∧
        (∀ (H : Hp) (xs : List V) (a : PySem.W.Codec.denoteAll r.args), OnlyF H → PySem.W.Codec.withinAll r.args a = true → PySem.W.Codec.app r.args r.asked a = true → DwAll K H xs (PySem.W.Codec.encAll r.args a) →
          sp xs H (fun v H' => Dw K H' v (r.ret.enc (PySem.W.Codec.app r.args r.f a))) fun _ _ _ => False) ∧
        ∀ base : Heap, K.In base → base.Ns mainGlobals mg → FnOk r.prog w K mg base CX k fa fd ps sp)
    (hCX : ∀ (H : Hp) (s : Shared) (e : Value) (s' : Shared), CX [] H s (fun _ _ _ => False) e s' → False) :
    PySem.W.WalkOS q loose XP YP r d [] (fun f vs => PySem.call f vs) := by
  intro w s₀ s₁ mg mb G Y fa o pm cd doc dV kV ho hd hcd hD hmg hg args vals as hpre hlay hrd hwl hlo
  obtain ⟨a, e1, e2⟩ := PySem.W.os_pre_some hpre
  obtain ⟨e3, hwi⟩ := PySem.W.Codec.encAll_of_decAll r.args args a e1
  subst e3
  obtain ⟨K, sp, fd, KX, hb, hsp, hF⟩ := F w mg fa _ Y G.T.g hmg
  refine PySem.W.enter_call (codeAny_mono (spec_call (R := []) (cl := classAt s₀.heap) (d0 := r.ret.enc (PySem.W.Codec.app r.args r.f a)) KX G.T.g G.T.b G.T.builtins G.T.nolimit hg hwl (pl_encAll _ _) (layable_weight hlay) hr hF hb (by rw [encAll_len]; exact hlen)
    (fun H xs hO hS => hsp H xs a hO hwi e2 hS) fun H e s' => hCX H s₁ e s') fun r' s' hq => ?_)
  obtain ⟨u, as', rfl, h1, h2, h3, h4⟩ := hq
  exact ⟨.inl ⟨u, _, as', rfl, fun _ => rfl, h1, (PySem.W.OpenSpec.post_iff hwell hwi _ _).mpr rfl, fun z => Bool.noConfusion (show false = true from z)⟩, h2, h3, h4⟩
end Hx
end
section
set_option Elab.async false
set_option linter.all false
set_option maxRecDepth 100000
set_option maxHeartbeats 0
/-! The top's run by the kernel, with what the Hook sees of it. -/
namespace Hd
open PySem PySem.W PySem.Calls PyProof.Rows HandSHeadRun L2
abbrev RR : PySem.W.OpenSpec := PySem.Challenge.rw_reportlayout_s01_answers
abbrev P : Program := RR.prog
abbrev qv : Program := PySem.W.view P [114]
def dd (i : Nat) (x : Str) : He.DefD := ⟨(x, none), x, x, defArgs (Wk.top i), defBody (Wk.top i), defScope (Wk.top i), [], []⟩
def fn : List He.DefD := Wk.defNames.map fun p => dd p.1 p.2
def fa : List He.Fa := (Wk.defNames.map fun p => He.Fa.glo p.2) ++ [.free "all", .free "any", .free "enumerate", .free "len", .free "list", .free "max", .free "min", .free "ord", .free "range", .free "str", .free "sum", .free "zip", .int "BIG" 1000000000000000000, .glo "ESCAPES", .glo "MEANINGS", .glo "WITH_LIST", .glo "ARGUMENTS"]
def escL : List (Int × Int) := [(34, 34), (92, 92), (10, 110), (124, 112), (126, 116)]
def meaL : List (Int × Int) := [(110, 10), (112, 124), (116, 126)]
def ex (K : PySem.W.Frag) : Bool := He.tupB K "ARGUMENTS" (Wk.arities.map He.Dv.int) && (He.tupB K "WITH_LIST" (Wk.withLists.map He.Dv.int) && (Hx.dicB K "ESCAPES" escL && Hx.dicB K "MEANINGS" meaL))
def loose0 : List PySem.Str := ["signs", "repeated", "is_text_byte", "is_text", "single_line", "shortened", "filled_behind", "filled_before", "parts", "joined", "solid_places", "without_last_spaces"]
def loose1 : List PySem.Str := ["without_outer_spaces", "decimal", "sign_length", "is_decimal", "decimal_value", "listed", "number_cell", "text_cell", "is_number", "cell_at", "decoded", "encoded"]
def loose2 : List PySem.Str := ["is_plain", "quoted", "printed", "scaled", "counted", "point_byte", "row_label", "plot_rows", "scale_lines", "plot_lines", "bar_line", "bar_lines"]
def loose3 : List PySem.Str := ["row_total", "row_cells", "natural_width", "natural_widths", "visible_total", "narrowed", "fitting_widths", "ruler", "filled_cell", "table_row", "framed", "table_lines"]
def loose4 : List PySem.Str := ["full_text", "stays_ahead", "inserted", "sorted_cells", "chosen_cells", "heading_lines", "check_lines", "words_of", "wrapped", "paragraph_lines", "item_lines", "row_forms"]
def loose5 : List PySem.Str := ["unquoted", "number_read", "cell_read", "cells_read", "forms_read", "table_read", "document", "chunks", "divided", "finished", "put", "pages"]
def loose6 : List PySem.Str := ["refused", "new_heading", "new_paragraph", "new_table", "new_plot", "new_check", "new_bars", "new_table_from", "new_item", "added", "is_missing", "is_no_width"]
def loose7 : List PySem.Str := ["table_error", "removed", "moved", "with_table", "sorted_rows", "selected", "changed", "told_lines", "told_document", "told_pages", "told_widths", "told_kinds"]
def loose8 : List PySem.Str := ["told_cells", "asked", "performed", "call_at", "ESCAPES", "MEANINGS", "BIG", "ARGUMENTS", "WITH_LIST"]
def loose : List PySem.Str := loose0 ++ loose1 ++ loose2 ++ loose3 ++ loose4 ++ loose5 ++ loose6 ++ loose7 ++ loose8
abbrev hk : PySem.W.Hook := Hx.hookE 2 fa fn ex
def ob (s : PySem.W.SharedT) : Hx.AlE := Hx.obsEG 2 fa fn ex (getT s)
theorem ob_eq (s : PySem.W.SharedT) : ob s = hk.obs s.abs := Hx.obsEG_eq (HandSHeadRun.getT_eq s)
def RunAt (w : World) : Prop := ∀ os : OsState, (endF (stepQ (denQ tabQ) P w) 3600 P w os).map (fun s => (looksF P (boot_heap w.params) s.abs, seenQ qv loose (importedModules P.main.body) (fun s => PySem.W.xlAt qv [] s && PySem.W.recOk [] s) s.abs, ob s)) = some (true, PySem.W.openGood qv loose, hk.val w)
end Hd
end
section
set_option Elab.async false
set_option linter.all false
set_option maxRecDepth 100000
set_option maxHeartbeats 0
namespace Hd
open PySem PySem.W PySem.Calls PyProof.Rows HandSHeadRun L2
/-! The kernel's runs, each a theorem of its own: within one theorem their memory adds up (the joined text has 12 GB). -/
def RunA (w : World) : Prop := ∀ os : OsState, (endF (stepQ (denQ tabQ) P w) 3600 P w os).map (fun s => (looksF P (boot_heap w.params) s.abs, seenQ qv loose (importedModules P.main.body) (fun s => PySem.W.xlAt qv [] s && PySem.W.recOk [] s) s.abs)) = some (true, PySem.W.openGood qv loose)
def RunB (w : World) : Prop := ∀ os : OsState, (endF (stepQ (denQ tabQ) P w) 3600 P w os).map (fun s => ob s) = some (hk.val w)
theorem runAF (w : World) : RunA (w.withFollow "special-get-raises" false) := fun os => by kernel_rfl
theorem runAT (w : World) : RunA (w.withFollow "special-get-raises" true) := fun os => by kernel_rfl
theorem runBF (w : World) : RunB (w.withFollow "special-get-raises" false) := fun os => by kernel_rfl
theorem runBT (w : World) : RunB (w.withFollow "special-get-raises" true) := fun os => by kernel_rfl
theorem map3 {s a b c : Type} {o : Option s} {f : s → a} {g : s → b} {k : s → c} {x : a} {y : b} {z : c} (h1 : o.map (fun s => (f s, g s)) = some (x, y)) (h2 : o.map (fun s => k s) = some z) :
    o.map (fun s => (f s, g s, k s)) = some (x, y, z) := by
  cases o with
  | none => cases h1
  | some v =>
    have e1 : (f v, g v) = (x, y) := Option.some.inj h1
    have e2 : k v = z := Option.some.inj h2
    have e3 : f v = x := congrArg Prod.fst e1
    have e4 : g v = y := congrArg Prod.snd e1
    show some (f v, g v, k v) = _
    rw [e2, e3, e4]
theorem run (w : World) : RunAt w := fun os => map3 (byRow2 "special-get-raises" runAF runAT w os) (byRow2 "special-get-raises" runBF runBT w os)
/-! What the row says of itself, one look at a time. -/
theorem looks : looksOpen RR.prog = true := by
  unfold looksOpen
  simp only [Bool.and_eq_true]
  refine ⟨⟨⟨⟨⟨?_, ?_⟩, ?_⟩, ?_⟩, ?_⟩, ?_⟩ <;> decide +kernel
theorem said : RR.wellSaid = true := by
  unfold OpenSpec.wellSaid
  simp only [Bool.and_eq_true]
  refine ⟨⟨⟨⟨⟨looks, ?_⟩, ?_⟩, ?_⟩, ?_⟩, ?_⟩ <;> decide +kernel
theorem whole : RR.prog.tablesWhole = true := by decide +kernel
end Hd
end
section
set_option Elab.async false
set_option linter.all false
set_option maxRecDepth 100000
set_option maxHeartbeats 4000000
/-! The walk, printed by wip/g/gen.py. -/
namespace Wk
open PySem PySem.Spec PyProof.Rows L2 Ty
open Rep (rep)
section
variable {w : World} {K : Fg} {mg : Str → Option Value}
/-! ### signs -/
abbrev st1 : Stmt := top 1
abbrev N1 : List Str := ["words", "sign"]
theorem sc1 : FnScope N1 ["words"] (defScope st1) := ⟨rfl, rfl, rfl, by decide +kernel, rfl, by decide +kernel, by decide +kernel⟩
def p_signs : Str → Prop := fun s => s.length ≤ 1000000
set_option maxHeartbeats 4000000 in
theorem ok_signs (e : Env K mg) : FnAt P w K mg "signs" 1 ["words"] (Sp1 K p_signs (codes)) := by
  refine fn1 (e.defs 0 1 "signs" rfl) sc1 rfl (fun _ _ _ _ _ _ us hu => match us, hu with | [_], _ => rfl) fun base f words hp cdv A outer s H E hr => ⟨_,
    (pss_one (ps_ret (pe_lc (own := [("sign", 1)]) (g := gName 1) rfl sc1.nd (pi_str (pv 0)) (blkOk_by (own := [("sign", 1)]) (N := N1) (sc := defScope st1) (by decide +kernel)) (fun _ _ _ _ _ => (pg_name (i := 1) sc1.nd rfl (by first | exact .inl rfl | exact .inr rfl))) (fun _ _ _ _ _ => pts_nil) (fun _ _ _ _ _ => (pe_callB call_ord (by rfl) (e.free "ord" (by decide)) (by decide +kernel) (pa_cons (pv 1) pa_nil)))))), fun F0 σ Q st q => ?_⟩
  have st : Ok K ⟨F0, H, F0⟩ F0 H σ [Vl words, .any] := st
  refine s_retF st (en_map st.c (ei_str (st.c.v 0 rfl)) ?_ (fun y F1 σ1 hy c => (ev_ord (c.v 1 rfl) ?_))).ev ?_ q
  · unfold signs1
    rw [List.length_map, Array.length_toList]
    have h : words.length ≤ 1000000 := hp
    have h2 : words.cps.size ≤ 1000000 := h
    omega
  · unfold signs1 at hy
    obtain ⟨n, _, rfl⟩ := List.mem_map.mp hy
    rfl
  · unfold signs1 codes
    rw [List.map_map]
    rfl
/-! ### repeated -/
abbrev st2 : Stmt := top 2
abbrev N2 : List Str := ["byte", "times", "turn"]
theorem sc2 : FnScope N2 ["byte", "times"] (defScope st2) := ⟨rfl, rfl, rfl, by decide +kernel, rfl, by decide +kernel, by decide +kernel⟩
def p_repeated : Int → Int → Prop := fun _ t => -1000000000 ≤ t ∧ t ≤ 16777216
set_option maxHeartbeats 4000000 in
theorem ok_repeated (e : Env K mg) : FnAt P w K mg "repeated" 1 ["byte", "times"] (Sn2 K p_repeated (R.repeated)) := by
  refine fnn2 (e.defs 1 2 "repeated" rfl) sc2 rfl (fun _ _ _ _ _ _ us hu => match us, hu with | [_, _], _ => rfl) fun base f byte times hp cdv A outer s H E hr => ⟨_,
    (pss_one (ps_ret (pe_lc (own := [("turn", 2)]) (g := gName 2) rfl sc2.nd (pi_range1 (by rfl) (e.free "range" (by decide)) (pa_cons (pv 1) pa_nil)) (blkOk_by (own := [("turn", 2)]) (N := N2) (sc := defScope st2) (by decide +kernel)) (fun _ _ _ _ _ => (pg_name (i := 2) sc2.nd rfl (by first | exact .inl rfl | exact .inr rfl))) (fun _ _ _ _ _ => pts_nil) (fun _ _ _ _ _ => (pv 0))))), fun F0 σ Q st q => ?_⟩
  have st : Ok K ⟨F0, H, F0⟩ F0 H σ [Vl byte, Vl times, .any] := st
  have hp : -1000000000 ≤ times ∧ times ≤ 16777216 := hp
  refine s_retNE st (en_map st.c (ei_rng1 (st.c.v 1 rfl) ?_) ?_ (fun y F1 σ1 hy c => (c.v 0 rfl))) ?_ q
  · omega
  · rw [List.length_map, List.length_range]
    omega
  · unfold R.repeated
    rw [List.map_map]
    exact (List.map_const' ..).trans (by rw [List.length_range])
/-! ### is_text_byte -/
abbrev st3 : Stmt := top 3
abbrev N3 : List Str := ["number"]
theorem sc3 : FnScope N3 ["number"] (defScope st3) := ⟨rfl, rfl, rfl, by decide +kernel, rfl, by decide +kernel, by decide +kernel⟩
def p_is_text_byte : Int → Prop := fun _ => True
set_option maxHeartbeats 4000000 in
theorem ok_is_text_byte (e : Env K mg) : FnAt P w K mg "is_text_byte" 1 ["number"] (Sp1 K p_is_text_byte (R.isTextByte)) := by
  refine fn1 (e.defs 2 3 "is_text_byte" rfl) sc3 rfl (fun _ _ _ _ _ _ us hu => match us, hu with | [_], _ => rfl) fun base f number hp cdv A outer s H E hr => ⟨_,
    (pss_one (ps_ret (pe_or (pe_cmpR op_eq (pv 0) pe_int (nomark _)) (pe_one (pe_chain op_le op_le pe_int (pv 0) pe_int))))), fun F0 σ Q st q => ?_⟩
  have st : Ok K ⟨F0, H, F0⟩ F0 H σ [Vl number] := st
  exact s_retF st (ev_or (ev_eq (st.c.v 0 rfl) ev_int) (fun hs => (ev_chainLe ev_int (st.c.v 0 rfl) ev_int))) rfl q
/-! ### is_text -/
abbrev st4 : Stmt := top 4
abbrev N4 : List Str := ["numbers", "number"]
theorem sc4 : FnScope N4 ["numbers"] (defScope st4) := ⟨rfl, rfl, rfl, by decide +kernel, rfl, by decide +kernel, by decide +kernel⟩
def p_is_text : (List Int) → Prop := fun _ => True
set_option maxHeartbeats 4000000 in
theorem ok_is_text (e : Env K mg) : FnAt P w K mg "is_text" 2 ["numbers"] (Sp1 K p_is_text (R.isText)) := by
  refine fn1 (e.defs 3 4 "is_text" rfl) sc4 rfl (fun _ _ _ _ _ _ us hu => match us, hu with | [_], _ => rfl) fun base f numbers hp cdv A outer s H E hr => ⟨_,
    (pss_one (ps_ret (pe_and (pe_cmpR op_le (pe_callB (len_of (K := K) rfl) (by rfl) (e.free "len" (by decide)) boot_len (pa_cons (pv 0) pa_nil)) pe_int (nomark _)) (pe_one (pe_callB (cr_all rfl) (by rfl) (e.free "all" (by decide)) (by decide +kernel) (pa_cons (pe_lc (own := [("number", 1)]) (g := gName 1) rfl sc4.nd (pi_list (pv 0)) (blkOk_by (own := [("number", 1)]) (N := N4) (sc := defScope st4) (by decide +kernel)) (fun _ _ _ _ _ => (pg_name (i := 1) sc4.nd rfl (by first | exact .inl rfl | exact .inr rfl))) (fun _ _ _ _ _ => pts_nil) (fun _ _ _ _ _ => (pe_fn (ok_is_text_byte e) (hr.mono (by decide)) (by rfl) (pa_cons (pv 1) pa_nil) pass0))) pa_nil)))))), fun F0 σ Q st q => ?_⟩
  have st : Ok K ⟨F0, H, F0⟩ F0 H σ [Vl numbers, .any] := st
  refine s_retF st (ev_and (ev_le (ev_len (st.c.v 0 rfl)) ev_int) (fun hs => (ev_all (en_map st.c (ei_list (st.c.v 0 rfl)) ?_ (fun y F1 σ1 hy c => (ev_call1 (c.v 1 rfl) ?_))).ev))) ?_ q
  · have h := of_decide_eq_true hs
    omega
  · trivial
  · unfold R.isText
    rw [List.all_map]
    rfl
/-! ### single_line -/
abbrev st5 : Stmt := top 5
abbrev N5 : List Str := ["text", "byte"]
theorem sc5 : FnScope N5 ["text"] (defScope st5) := ⟨rfl, rfl, rfl, by decide +kernel, rfl, by decide +kernel, by decide +kernel⟩
def p_single_line : (List Int) → Prop := fun t => t.length ≤ 1000000
set_option maxHeartbeats 4000000 in
theorem ok_single_line (e : Env K mg) : FnAt P w K mg "single_line" 1 ["text"] (Sp1 K p_single_line (R.singleLine)) := by
  refine fn1 (e.defs 4 5 "single_line" rfl) sc5 rfl (fun _ _ _ _ _ _ us hu => match us, hu with | [_], _ => rfl) fun base f text hp cdv A outer s H E hr => ⟨_,
    (pss_one (ps_ret (pe_lc (own := [("byte", 1)]) (g := gName 1) rfl sc5.nd (pi_list (pv 0)) (blkOk_by (own := [("byte", 1)]) (N := N5) (sc := defScope st5) (by decide +kernel)) (fun _ _ _ _ _ => (pg_name (i := 1) sc5.nd rfl (by first | exact .inl rfl | exact .inr rfl))) (fun _ _ _ _ _ => pts_nil) (fun _ _ _ _ _ => (pe_ifExp (pt_cmpR op_eq (pv 1) pe_int (nomark _)) pe_int (pv 1)))))), fun F0 σ Q st q => ?_⟩
  have st : Ok K ⟨F0, H, F0⟩ F0 H σ [Vl text, .any] := st
  have hp : text.length ≤ 1000000 := hp
  refine s_retF st (en_map st.c (ei_list (st.c.v 0 rfl)) ?_ (fun y F1 σ1 hy c => (ev_ite (et_test (ev_eq (c.v 1 rfl) ev_int)) (fun hs => ev_int) (fun hs => (c.v 1 rfl))))).ev ?_ q
  · omega
  · unfold R.singleLine
    refine List.map_congr_left fun b _ => ?_
    by_cases h : b = 10
    · rw [if_pos (decide_eq_true h), if_pos h]
    · rw [if_neg (by rw [decide_eq_false h]; decide), if_neg h]
/-! ### shortened -/
abbrev st6 : Stmt := top 6
abbrev N6 : List Str := ["row", "width"]
theorem sc6 : FnScope N6 ["row", "width"] (defScope st6) := ⟨rfl, rfl, rfl, by decide +kernel, rfl, by decide +kernel, by decide +kernel⟩
def p_shortened : (List Int) → Int → Prop := fun r w => r.length ≤ 1000000 ∧ 1 ≤ w ∧ w ≤ 1000000
set_option maxHeartbeats 4000000 in
theorem ok_shortened (e : Env K mg) : FnAt P w K mg "shortened" 1 ["row", "width"] (Sp2 K p_shortened (R.shortened)) := by
  refine fn2 (e.defs 5 6 "shortened" rfl) sc6 rfl (fun _ _ _ _ _ _ us hu => match us, hu with | [_, _], _ => rfl) fun base f row width hp cdv A outer s H E hr => ⟨_,
    (pss_cons (ps_if (pt_cmpR op_le (pe_callB (len_of (K := K) rfl) (by rfl) (e.free "len" (by decide)) boot_len (pa_cons (pv 0) pa_nil)) (pv 1) (nomark _)) (pss_one (ps_ret (pe_callTy call_list_of (by rfl) (e.free "list" (by decide)) (by decide +kernel) (pa_cons (pv 0) pa_nil)))) pss_nil)
      (pss_one (ps_ret (pe_op op_cat (pe_slice (sll_of (K := K) rfl) (pv 0) po_none (po_some (pe_op op_sub (pv 1) pe_int))) (pe_lst (pa_cons pe_int pa_nil)))))), fun F0 σ Q st q => ?_⟩
  have st : Ok K ⟨F0, H, F0⟩ F0 H σ [Vl row, Vl width] := st
  obtain ⟨h1, h2, h3⟩ := hp
  refine q_if st (et_test (ev_le (ev_len (st.h.v 0 rfl)) (st.h.v 1 rfl))) (fun hb F H st => ?_) (fun hb F H st => ?_)
  · exact s_retF st (en_list (st.c.v 0 rfl)).ev (if_pos (of_decide_eq_true hb)).symm q
  · refine s_retF st (en_cat (en_cut (st.c.v 0 rfl) eo_none (eo_some (ev_sub (st.c.v 1 rfl) ev_int))).ev (en_one ev_int).ev ?_).ev ?_ q
    · rw [cut_to (by omega), List.length_take, List.length_singleton]
      omega
    · rw [cut_to (by omega)]
      exact (if_neg (of_decide_eq_false hb)).symm
/-! ### filled_behind -/
abbrev st7 : Stmt := top 7
abbrev N7 : List Str := ["row", "width"]
theorem sc7 : FnScope N7 ["row", "width"] (defScope st7) := ⟨rfl, rfl, rfl, by decide +kernel, rfl, by decide +kernel, by decide +kernel⟩
def p_filled_behind : (List Int) → Int → Prop := fun r w => r.length ≤ 1000000 ∧ -1000000 ≤ w ∧ w ≤ 1000000
set_option maxHeartbeats 4000000 in
theorem ok_filled_behind (e : Env K mg) : FnAt P w K mg "filled_behind" 2 ["row", "width"] (Sp2 K p_filled_behind (R.filledBehind)) := by
  refine fn2 (e.defs 6 7 "filled_behind" rfl) sc7 rfl (fun _ _ _ _ _ _ us hu => match us, hu with | [_, _], _ => rfl) fun base f row width hp cdv A outer s H E hr => ⟨_,
    (pss_one (ps_ret (pe_op op_cat (pv 0) (pe_fn (ok_repeated e) (hr.mono (by decide)) (by rfl) (pa_cons pe_int (pa_cons (pe_op op_sub (pv 1) (pe_callB (len_of (K := K) rfl) (by rfl) (e.free "len" (by decide)) boot_len (pa_cons (pv 0) pa_nil))) pa_nil)) pass0)))), fun F0 σ Q st q => ?_⟩
  have st : Ok K ⟨F0, H, F0⟩ F0 H σ [Vl row, Vl width] := st
  obtain ⟨h1, h2, h3⟩ := hp
  refine s_retF st (en_cat (st.c.v 0 rfl) (en_call2 ev_int (ev_sub (st.c.v 1 rfl) (ev_len (st.c.v 0 rfl))) ?_).ev ?_).ev rfl q
  · constructor <;> omega
  · unfold R.repeated
    rw [List.length_replicate]
    omega
/-! ### filled_before -/
abbrev st8 : Stmt := top 8
abbrev N8 : List Str := ["row", "width"]
theorem sc8 : FnScope N8 ["row", "width"] (defScope st8) := ⟨rfl, rfl, rfl, by decide +kernel, rfl, by decide +kernel, by decide +kernel⟩
def p_filled_before : (List Int) → Int → Prop := fun r w => r.length ≤ 1000000 ∧ -1000000 ≤ w ∧ w ≤ 1000000
set_option maxHeartbeats 4000000 in
theorem ok_filled_before (e : Env K mg) : FnAt P w K mg "filled_before" 2 ["row", "width"] (Sp2 K p_filled_before (R.filledBefore)) := by
  refine fn2 (e.defs 7 8 "filled_before" rfl) sc8 rfl (fun _ _ _ _ _ _ us hu => match us, hu with | [_, _], _ => rfl) fun base f row width hp cdv A outer s H E hr => ⟨_,
    (pss_one (ps_ret (pe_op op_cat (pe_fn (ok_repeated e) (hr.mono (by decide)) (by rfl) (pa_cons pe_int (pa_cons (pe_op op_sub (pv 1) (pe_callB (len_of (K := K) rfl) (by rfl) (e.free "len" (by decide)) boot_len (pa_cons (pv 0) pa_nil))) pa_nil)) pass0) (pv 0)))), fun F0 σ Q st q => ?_⟩
  have st : Ok K ⟨F0, H, F0⟩ F0 H σ [Vl row, Vl width] := st
  obtain ⟨h1, h2, h3⟩ := hp
  refine s_retF st (en_cat (en_call2 ev_int (ev_sub (st.c.v 1 rfl) (ev_len (st.c.v 0 rfl))) ?_).ev (st.c.v 0 rfl) ?_).ev rfl q
  · constructor <;> omega
  · unfold R.repeated
    rw [List.length_replicate]
    omega
/-! ### parts -/
abbrev st9 : Stmt := top 9
abbrev N9 : List Str := ["row", "mark", "done", "part", "byte"]
theorem sc9 : FnScope N9 ["row", "mark"] (defScope st9) := ⟨rfl, rfl, rfl, by decide +kernel, rfl, by decide +kernel, by decide +kernel⟩
def p_parts : (List Int) → Int → Prop := fun r _ => r.length ≤ 1000000
set_option maxHeartbeats 4000000 in
theorem ok_parts (e : Env K mg) : FnAt P w K mg "parts" 1 ["row", "mark"] (Sp2 K p_parts (R.parts)) := by
  refine fn2 (e.defs 8 9 "parts" rfl) sc9 rfl (fun _ _ _ _ _ _ us hu => match us, hu with | [_, _], _ => rfl) fun base f row mark hp cdv A outer s H E hr => ⟨_,
    (pss_cons (ps_set (i := 2) sc9.nd rfl (by first | exact .inl rfl | exact .inr rfl) (pe_lst pa_nil))
      (pss_cons (ps_set (i := 3) sc9.nd rfl (by first | exact .inl rfl | exact .inr rfl) (pe_lst pa_nil))
      (pss_cons (ps_for PassesOwn.never rfl (pi_list (pv 0)) (pg_name (i := 4) sc9.nd rfl (by first | exact .inl rfl | exact .inr rfl)) (pss_one (ps_if (pt_cmpR op_eq (pv 4) (pv 1) (nomark _)) (pss_cons (ps_expr (pe_bm PySem.F.plainAttrs_list PySem.F.slot_list_append PySem.F.type_list_append mt_append (pv 2) (pa_cons (pv 3) pa_nil)))
      (pss_one (ps_set (i := 3) sc9.nd rfl (by first | exact .inl rfl | exact .inr rfl) (pe_lst pa_nil)))) (pss_one (ps_expr (pe_bm PySem.F.plainAttrs_list PySem.F.slot_list_append PySem.F.type_list_append mt_append (pv 3) (pa_cons (pv 4) pa_nil)))))))
      (pss_one (ps_ret (pe_op op_cat (pv 2) (pe_lst (pa_cons (pv 3) pa_nil)))))))), fun F0 σ Q st q => ?_⟩
  have st : Ok K ⟨F0, H, F0⟩ F0 H σ [Vl row, Vl mark, .any, .any, .any] := st
  have hp : row.length ≤ 1000000 := hp
  refine q_newM st (en_nil (α := (List Int))) fun pd F H σ st => ?_
  refine q_newM st (en_nil (α := Int)) fun pp F H σ st => ?_
  refine q_for st (ei_list (st.c.v 0 rfl)) (fun y => g_name) (fun i Γ => ∃ pd pp s, Γ = [Vl row, Vl mark, Mu pd (R.partsGo (row.take i) mark).1, Mu pp (R.partsGo (row.take i) mark).2, s]) ⟨pd, pp, _, rfl⟩ ?_ ?_
  · rintro G i b F H σ Γ hb ⟨pd, pp, s, rfl⟩ st
    have st : Ok K _ F H σ [Vl row, Vl mark, Mu pd (R.partsGo (row.take i) mark).1, Mu pp (R.partsGo (row.take i) mark).2, Vl b] := st
    have step : R.partsGo (row.take (i + 1)) mark = R.partStep mark (R.partsGo (row.take i) mark) b := by
      unfold R.partsGo
      rw [List.take_add_one, hb, List.foldl_append]
      rfl
    have hi : i < row.length := (List.getElem?_eq_some_iff.mp hb).1
    have len := R.partsGo_len (row.take i) mark
    rw [List.length_take] at len
    refine s_if st (et_test (ev_eq (st.h.v 4 rfl) (st.h.v 1 rfl))) (fun hc F H st => ?_) (fun hc F H st => ?_)
    · have e : b = mark := of_decide_eq_true hc
      obtain ⟨F, st⟩ := st.freeze 3 rfl
      refine q_app st rfl (st.at (st.c.v 3 rfl)) ?_ fun F H st => ?_
      · omega
      refine s_newM st (en_nil (α := Int)) fun pq F H σ st => ⟨_, _, st, pd, pq, Vl b, ?_⟩
      rw [step, show R.partStep mark (R.partsGo (row.take i) mark) b = ((R.partsGo (row.take i) mark).1 ++ [(R.partsGo (row.take i) mark).2], []) from if_pos e]
      rfl
    · have e : ¬ b = mark := of_decide_eq_false hc
      refine s_app st rfl (st.at (st.c.v 4 rfl)) ?_ fun F H st => ⟨_, _, st, pd, pp, Vl b, ?_⟩
      · omega
      rw [step, show R.partStep mark (R.partsGo (row.take i) mark) b = ((R.partsGo (row.take i) mark).1, (R.partsGo (row.take i) mark).2 ++ [b]) from if_neg e]
      rfl
  · rintro F H σ Γ ⟨pd, pp, s, rfl⟩ st
    rw [List.take_length] at st
    obtain ⟨F, st⟩ := st.freeze 3 rfl
    obtain ⟨F, st⟩ := st.freeze 2 rfl
    have len := R.partsGo_len row mark
    refine s_retF st (en_cat (st.c.v 2 rfl) (en_one (st.c.v 3 rfl)).ev ?_).ev rfl q
    simp only [List.length_singleton]
    omega
/-! ### joined -/
abbrev st10 : Stmt := top 10
abbrev N10 : List Str := ["lines", "row", "at", "line"]
theorem sc10 : FnScope N10 ["lines"] (defScope st10) := ⟨rfl, rfl, rfl, by decide +kernel, rfl, by decide +kernel, by decide +kernel⟩
def p_joined : (List (List Int)) → Prop := fun l => l.length ≤ 1000 ∧ ∀ x ∈ l, x.length ≤ 10000
set_option maxHeartbeats 4000000 in
theorem ok_joined (e : Env K mg) : FnAt P w K mg "joined" 1 ["lines"] (Sp1 K p_joined (R.joined)) := by
  refine fn1 (e.defs 9 10 "joined" rfl) sc10 rfl (fun _ _ _ _ _ _ us hu => match us, hu with | [_], _ => rfl) fun base f lines hp cdv A outer s H E hr => ⟨_,
    (pss_cons (ps_set (i := 1) sc10.nd rfl (by first | exact .inl rfl | exact .inr rfl) (pe_lst pa_nil))
      (pss_cons (ps_for PassesOwn.never rfl (pi_enum (by rfl) (e.free "enumerate" (by decide)) (pa_cons (pv 0) pa_nil)) (pg_tup rfl (pgs_cons (pg_name (i := 2) sc10.nd rfl (by first | exact .inl rfl | exact .inr rfl)) (pgs_cons (pg_name (i := 3) sc10.nd rfl (by first | exact .inl rfl | exact .inr rfl)) pgs_nil))) (pss_cons (ps_if (pt_cmpR op_gt (pv 2) pe_int (nomark _)) (pss_one (ps_expr (pe_bm PySem.F.plainAttrs_list PySem.F.slot_list_append PySem.F.type_list_append mt_append (pv 1) (pa_cons pe_int pa_nil)))) pss_nil)
      (pss_one (ps_expr (pe_bm PySem.F.plainAttrs_list PySem.F.slot_list_extend PySem.F.type_list_extend mt_extend (pv 1) (pa_cons (pv 3) pa_nil))))))
      (pss_one (ps_ret (pv 1))))), fun F0 σ Q st q => ?_⟩
  have st : Ok K ⟨F0, H, F0⟩ F0 H σ [Vl lines, .any, .any, .any] := st
  obtain ⟨h1, h2⟩ := hp
  refine q_newM st (en_nil (α := Int)) fun pr F H σ st => ?_
  refine q_for st (ei_enum (st.c.v 0 rfl)) (fun y => g_pair) (fun i Γ => ∃ pr s t, Γ = [Vl lines, Mu pr (R.joined (lines.take i)), s, t]) ⟨pr, _, _, rfl⟩ ?_ ?_
  · rintro G i ⟨k, b⟩ F H σ Γ hb ⟨pr, s, t, rfl⟩ st
    have st : Ok K _ F H σ [Vl lines, Mu pr (R.joined (lines.take i)), Vl k, Vl b] := st
    rw [List.getElem?_map, List.getElem?_zipIdx] at hb
    have hb' : lines[i]? = some b ∧ k = (i : Int) := by
      cases h : lines[i]? with
      | none => rw [h] at hb; cases hb
      | some z =>
        rw [h] at hb
        have e := Option.some.inj hb
        injection e with e1 e2
        refine ⟨congrArg some e2, ?_⟩
        rw [← e1]
        simp
    clear hb
    obtain ⟨hb, rfl⟩ := hb'
    have hi : i < lines.length := (List.getElem?_eq_some_iff.mp hb).1
    have bnd := R.joined_len (lines.take i) 10000 fun x hx => h2 x (List.mem_of_mem_take hx)
    have bl := h2 b (List.mem_of_getElem? hb)
    rw [List.length_take, Nat.min_eq_left (by omega)] at bnd
    have bnd2 : (R.joined (lines.take i)).length ≤ 10001000 := Nat.le_trans bnd (by omega)
    have take1 : lines.take (i + 1) = lines.take i ++ [b] := by
      rw [List.take_add_one, hb]
      rfl
    refine q_if st (et_test (ev_gt (st.h.v 2 rfl) ev_int)) (fun hc F H st => ?_) (fun hc F H st => ?_)
    · have e : 0 < (i : Int) := of_decide_eq_true hc
      refine s_app st rfl (st.at ev_int) ?_ fun F H st => ?_
      · omega
      refine s_ext st rfl (st.at (st.c.v 3 rfl)) ?_ fun F H st => ⟨_, _, st, pr, Vl (i : Int), Vl b, ?_⟩
      · rw [List.length_append, List.length_singleton]
        omega
      rw [take1, R.joined_snoc _ _ (by intro z; have := congrArg List.length z; rw [List.length_take, List.length_nil] at this; omega)]
      have e2 : R.joined (lines.take i) ++ [10] ++ b = R.joined (lines.take i) ++ 10 :: b := by rw [List.append_assoc]; rfl
      rw [← e2]
      rfl
    · have e : ¬ 0 < (i : Int) := of_decide_eq_false hc
      have i0 : i = 0 := by omega
      subst i0
      refine s_ext st rfl (st.at (st.c.v 3 rfl)) ?_ fun F H st => ⟨_, _, st, pr, Vl ((0 : Nat) : Int), Vl b, ?_⟩
      · omega
      rw [take1]
      rfl
  · rintro F H σ Γ ⟨pr, s, t, rfl⟩ st
    rw [List.length_map, List.length_zipIdx, List.take_length] at st
    obtain ⟨F, st⟩ := st.freeze 1 rfl
    exact s_retF st (st.c.v 1 rfl) rfl q
/-! ### solid_places -/
abbrev st11 : Stmt := top 11
abbrev N11 : List Str := ["row", "at", "byte"]
theorem sc11 : FnScope N11 ["row"] (defScope st11) := ⟨rfl, rfl, rfl, by decide +kernel, rfl, by decide +kernel, by decide +kernel⟩
def p_solid_places : (List Int) → Prop := fun r => r.length ≤ 1000000
set_option maxHeartbeats 4000000 in
theorem ok_solid_places (e : Env K mg) : FnAt P w K mg "solid_places" 1 ["row"] (Sp1 K p_solid_places (R.solidPlaces)) := by
  refine fn1 (e.defs 10 11 "solid_places" rfl) sc11 rfl (fun _ _ _ _ _ _ us hu => match us, hu with | [_], _ => rfl) fun base f row hp cdv A outer s H E hr => ⟨_,
    (pss_one (ps_ret (pe_lc (own := [("at", 1), ("byte", 2)]) (g := gTup K 2 (gCons (gName 1) (gCons (gName 2) gNil))) rfl sc11.nd (pi_enum (by rfl) (e.free "enumerate" (by decide)) (pa_cons (pv 0) pa_nil)) (blkOk_by (own := [("at", 1), ("byte", 2)]) (N := N11) (sc := defScope st11) (by decide +kernel)) (fun _ _ _ _ _ => (pg_tup rfl (pgs_cons (pg_name (i := 1) sc11.nd rfl (by first | exact .inl rfl | exact .inr rfl)) (pgs_cons (pg_name (i := 2) sc11.nd rfl (by first | exact .inl rfl | exact .inr rfl)) pgs_nil)))) (fun _ _ _ _ _ => pts_one (pt_cmpR op_ne (pv 2) pe_int (nomark _))) (fun _ _ _ _ _ => (pv 1))))), fun F0 σ Q st q => ?_⟩
  have st : Ok K ⟨F0, H, F0⟩ F0 H σ [Vl row, .any, .any] := st
  have hp : row.length ≤ 1000000 := hp
  refine s_retF st (en_lc2 (by decide) st.c (ei_enum (st.c.v 0 rfl)) ?_ (fun y F1 σ1 hy c => (et_test (ev_ne (c.v 2 rfl) ev_int))) (fun y F1 σ1 hy hc c => (c.v 1 rfl))).ev ?_ q
  · rw [List.length_map, List.length_zipIdx]
    omega
  · unfold R.solidPlaces
    rw [List.filter_map, List.map_map]
    rfl
/-! ### without_last_spaces -/
abbrev st12 : Stmt := top 12
abbrev N12 : List Str := ["row", "places"]
theorem sc12 : FnScope N12 ["row"] (defScope st12) := ⟨rfl, rfl, rfl, by decide +kernel, rfl, by decide +kernel, by decide +kernel⟩
def p_without_last_spaces : (List Int) → Prop := fun r => r.length ≤ 1000000
set_option maxHeartbeats 4000000 in
theorem ok_without_last_spaces (e : Env K mg) : FnAt P w K mg "without_last_spaces" 2 ["row"] (Sp1 K p_without_last_spaces (R.withoutLast)) := by
  refine fn1 (e.defs 11 12 "without_last_spaces" rfl) sc12 rfl (fun _ _ _ _ _ _ us hu => match us, hu with | [_], _ => rfl) fun base f row hp cdv A outer s H E hr => ⟨_,
    (pss_cons (ps_set (i := 1) sc12.nd rfl (by first | exact .inl rfl | exact .inr rfl) (pe_fn (ok_solid_places e) (hr.mono (by decide)) (by rfl) (pa_cons (pv 0) pa_nil) pass0))
      (pss_cons (ps_if (pt_cmpR op_eq (pe_callB (len_of (K := K) rfl) (by rfl) (e.free "len" (by decide)) boot_len (pa_cons (pv 1) pa_nil)) pe_int (nomark _)) (pss_one (ps_ret (pe_lst pa_nil))) pss_nil)
      (pss_one (ps_ret (pe_slice (sll_of (K := K) rfl) (pv 0) po_none (po_some (pe_op op_add (pe_ix (ixl_of (K := K) rfl) (pv 1) (pe_un un_neg pe_int) (fun _ _ => rfl)) pe_int))))))), fun F0 σ Q st q => ?_⟩
  have st : Ok K ⟨F0, H, F0⟩ F0 H σ [Vl row, .any] := st
  have hp : row.length ≤ 1000000 := hp
  refine q_asg st (st.at (ev_call1 (st.c.v 0 rfl) ?_)) fun F H σ st => ?_
  · exact hp
  refine q_if st (et_test (ev_eq (ev_len (st.h.v 1 rfl)) ev_int)) (fun hb F H st => ?_) (fun hb F H st => ?_)
  · refine s_retF st en_nil.ev ?_ q
    have e := of_decide_eq_true hb
    unfold R.withoutLast
    rw [show R.solidPlaces row = [] from List.length_eq_zero_iff.mp (by omega)]
    rfl
  · have e := of_decide_eq_false hb
    have e1 : (R.solidPlaces row)[(R.solidPlaces row).length - 1]? = some ((R.solidPlaces row)[(R.solidPlaces row).length - 1]'(by omega)) := List.getElem?_eq_getElem _
    generalize (R.solidPlaces row)[(R.solidPlaces row).length - 1]'(by omega) = k at e1
    have hk := R.solid_nonneg row k (List.mem_of_getElem? e1)
    refine s_retF st (en_cut (st.c.v 0 rfl) eo_none (eo_some (ev_add (ev_ix (x := ?_) (st.c.v 1 rfl) (ev_neg ev_int) ?_) ev_int))).ev ?_ q
    · exact k
    · exact atI_end e1
    · rw [cut_to (by omega)]
      unfold R.withoutLast
      rw [List.getLast?_eq_getElem?, e1]
/-! ### without_outer_spaces -/
abbrev st13 : Stmt := top 13
abbrev N13 : List Str := ["row", "places"]
theorem sc13 : FnScope N13 ["row"] (defScope st13) := ⟨rfl, rfl, rfl, by decide +kernel, rfl, by decide +kernel, by decide +kernel⟩
def p_without_outer_spaces : (List Int) → Prop := fun r => r.length ≤ 1000000
set_option maxHeartbeats 4000000 in
theorem ok_without_outer_spaces (e : Env K mg) : FnAt P w K mg "without_outer_spaces" 2 ["row"] (Sp1 K p_without_outer_spaces (R.withoutOuter)) := by
  refine fn1 (e.defs 12 13 "without_outer_spaces" rfl) sc13 rfl (fun _ _ _ _ _ _ us hu => match us, hu with | [_], _ => rfl) fun base f row hp cdv A outer s H E hr => ⟨_,
    (pss_cons (ps_set (i := 1) sc13.nd rfl (by first | exact .inl rfl | exact .inr rfl) (pe_fn (ok_solid_places e) (hr.mono (by decide)) (by rfl) (pa_cons (pv 0) pa_nil) pass0))
      (pss_cons (ps_if (pt_cmpR op_eq (pe_callB (len_of (K := K) rfl) (by rfl) (e.free "len" (by decide)) boot_len (pa_cons (pv 1) pa_nil)) pe_int (nomark _)) (pss_one (ps_ret (pe_lst pa_nil))) pss_nil)
      (pss_one (ps_ret (pe_slice (sll_of (K := K) rfl) (pv 0) (po_some (pe_ix (ixl_of (K := K) rfl) (pv 1) pe_int (fun _ _ => rfl))) (po_some (pe_op op_add (pe_ix (ixl_of (K := K) rfl) (pv 1) (pe_un un_neg pe_int) (fun _ _ => rfl)) pe_int))))))), fun F0 σ Q st q => ?_⟩
  have st : Ok K ⟨F0, H, F0⟩ F0 H σ [Vl row, .any] := st
  have hp : row.length ≤ 1000000 := hp
  refine q_asg st (st.at (ev_call1 (st.c.v 0 rfl) ?_)) fun F H σ st => ?_
  · exact hp
  refine q_if st (et_test (ev_eq (ev_len (st.h.v 1 rfl)) ev_int)) (fun hb F H st => ?_) (fun hb F H st => ?_)
  · refine s_retF st en_nil.ev ?_ q
    have e := of_decide_eq_true hb
    unfold R.withoutOuter
    rw [show R.solidPlaces row = [] from List.length_eq_zero_iff.mp (by omega)]
    rfl
  · have e := of_decide_eq_false hb
    have e1 : (R.solidPlaces row)[(R.solidPlaces row).length - 1]? = some ((R.solidPlaces row)[(R.solidPlaces row).length - 1]'(by omega)) := List.getElem?_eq_getElem _
    have e0 : (R.solidPlaces row)[0]? = some ((R.solidPlaces row)[0]'(by omega)) := List.getElem?_eq_getElem _
    generalize (R.solidPlaces row)[(R.solidPlaces row).length - 1]'(by omega) = k at e1
    generalize (R.solidPlaces row)[0]'(by omega) = j at e0
    have hk := R.solid_nonneg row k (List.mem_of_getElem? e1)
    have hj := R.solid_nonneg row j (List.mem_of_getElem? e0)
    refine s_retF st (en_cut (st.c.v 0 rfl) (eo_some (ev_ix (x := ?_) (st.c.v 1 rfl) ev_int ?_)) (eo_some (ev_add (ev_ix (x := ?_) (st.c.v 1 rfl) (ev_neg ev_int) ?_) ev_int))).ev ?_ q
    · exact j
    · exact atI_nat' (by decide) e0
    · exact k
    · exact atI_end e1
    · rw [cut_mid (by omega) (by omega)]
      unfold R.withoutOuter
      rw [List.getLast?_eq_getElem?, e1, List.head?_eq_getElem?, e0]
/-! ### decimal -/
abbrev st14 : Stmt := top 14
abbrev N14 : List Str := ["number"]
theorem sc14 : FnScope N14 ["number"] (defScope st14) := ⟨rfl, rfl, rfl, by decide +kernel, rfl, by decide +kernel, by decide +kernel⟩
def p_decimal : Int → Prop := fun n => n.natAbs < 2 ^ 250
set_option maxHeartbeats 4000000 in
theorem ok_decimal (e : Env K mg) : FnAt P w K mg "decimal" 2 ["number"] (Sp1 K p_decimal (R.decimal)) := by
  refine fn1 (e.defs 13 14 "decimal" rfl) sc14 rfl (fun _ _ _ _ _ _ us hu => match us, hu with | [_], _ => rfl) fun base f number hp cdv A outer s H E hr => ⟨_,
    (pss_one (ps_ret (pe_fn (ok_signs e) (hr.mono (by decide)) (by rfl) (pa_cons (pe_callTy call_str_int (by rfl) (e.free "str" (by decide)) (by decide +kernel) (pa_cons (pv 0) pa_nil)) pa_nil) pass0))), fun F0 σ Q st q => ?_⟩
  have st : Ok K ⟨F0, H, F0⟩ F0 H σ [Vl number] := st
  have hp : number.natAbs < 2 ^ 250 := hp
  have hlog : number.natAbs.log2 < 1920 := by
    by_cases z : number.natAbs = 0
    · rw [z]; decide
    · exact (Nat.log2_lt z).mpr (Nat.lt_of_lt_of_le hp (Nat.pow_le_pow_right (by decide) (by decide)))
  refine s_retF st (ev_call1 (ev_strI (st.c.v 0 rfl) ?_) ?_) ?_ q
  · exact hlog
  · have h := R.decimal_len100 hp
    have e : (codes (Str.ofString (toString number))).length = (R.decimal number).length := by rw [codesOf]; rfl
    unfold codes at e
    rw [List.length_map, Array.length_toList] at e
    show (Str.ofString (toString number)).cps.size ≤ 1000000
    omega
  · exact codesOf _
/-! ### sign_length -/
abbrev st15 : Stmt := top 15
abbrev N15 : List Str := ["row"]
theorem sc15 : FnScope N15 ["row"] (defScope st15) := ⟨rfl, rfl, rfl, by decide +kernel, rfl, by decide +kernel, by decide +kernel⟩
def p_sign_length : (List Int) → Prop := fun _ => True
set_option maxHeartbeats 4000000 in
theorem ok_sign_length (e : Env K mg) : FnAt P w K mg "sign_length" 1 ["row"] (Sp1 K p_sign_length (R.signLength)) := by
  refine fn1 (e.defs 14 15 "sign_length" rfl) sc15 rfl (fun _ _ _ _ _ _ us hu => match us, hu with | [_], _ => rfl) fun base f row hp cdv A outer s H E hr => ⟨_,
    (pss_one (ps_ret (pe_ifExp (pt_cmpR (op_eqD hr.units) (pe_slice (sll_of (K := K) rfl) (pv 0) po_none (po_some pe_int)) (pe_lst (pa_cons pe_int pa_nil)) (nomark _)) pe_int pe_int))), fun F0 σ Q st q => ?_⟩
  have st : Ok K ⟨F0, H, F0⟩ F0 H σ [Vl row] := st
  refine s_retF st (ev_ite (et_test (ev_eqL (en_cut (st.c.v 0 rfl) eo_none (eo_some ev_int)).ev (en_one ev_int).ev)) (fun hs => ev_int) (fun hs => ev_int)) ?_ q
  rw [cut_to (by decide), show (1 : Int).toNat = 1 from rfl]
  unfold R.signLength
  by_cases h : row.take 1 = [45]
  · rw [if_pos (decide_eq_true h), if_pos h]
  · rw [if_neg (by rw [decide_eq_false h]; decide), if_neg h]
/-! ### is_decimal -/
abbrev st16 : Stmt := top 16
abbrev N16 : List Str := ["row", "digits", "byte"]
theorem sc16 : FnScope N16 ["row"] (defScope st16) := ⟨rfl, rfl, rfl, by decide +kernel, rfl, by decide +kernel, by decide +kernel⟩
def p_is_decimal : (List Int) → Prop := fun r => r.length ≤ 1000000
set_option maxHeartbeats 4000000 in
theorem ok_is_decimal (e : Env K mg) : FnAt P w K mg "is_decimal" 2 ["row"] (Sp1 K p_is_decimal (R.isDecimal)) := by
  refine fn1 (e.defs 15 16 "is_decimal" rfl) sc16 rfl (fun _ _ _ _ _ _ us hu => match us, hu with | [_], _ => rfl) fun base f row hp cdv A outer s H E hr => ⟨_,
    (pss_cons (ps_set (i := 1) sc16.nd rfl (by first | exact .inl rfl | exact .inr rfl) (pe_slice (sll_of (K := K) rfl) (pv 0) (po_some (pe_fn (ok_sign_length e) (hr.mono (by decide)) (by rfl) (pa_cons (pv 0) pa_nil) pass0)) po_none))
      (pss_cons (ps_if (PW.pt (pw_or (pt_cmpR op_eq (pe_callB (len_of (K := K) rfl) (by rfl) (e.free "len" (by decide)) boot_len (pa_cons (pv 1) pa_nil)) pe_int (nomark _)) (pw_or1 (pt_not (pt_val (pe_callB (cr_all rfl) (by rfl) (e.free "all" (by decide)) (by decide +kernel) (pa_cons (pe_lc (own := [("byte", 2)]) (g := gName 2) rfl sc16.nd (pi_list (pv 1)) (blkOk_by (own := [("byte", 2)]) (N := N16) (sc := defScope st16) (by decide +kernel)) (fun _ _ _ _ _ => (pg_name (i := 2) sc16.nd rfl (by first | exact .inl rfl | exact .inr rfl))) (fun _ _ _ _ _ => pts_nil) (fun _ _ _ _ _ => (pe_chain op_le op_le pe_int (pv 2) pe_int))) pa_nil))))))) (pss_one (ps_ret pe_bl)) pss_nil)
      (pss_one (ps_ret (pe_or (pe_cmpR op_ne (pe_ix (ixl_of (K := K) rfl) (pv 1) pe_int (fun _ _ => rfl)) pe_int (nomark _)) (pe_one (pe_cmpR (op_eqD hr.units) (pv 0) (pe_lst (pa_cons pe_int pa_nil)) (nomark _)))))))), fun F0 σ Q st q => ?_⟩
  have st : Ok K ⟨F0, H, F0⟩ F0 H σ [Vl row, .any, .any] := st
  have hp : row.length ≤ 1000000 := hp
  have hs0 : 0 ≤ R.signLength row := by unfold R.signLength; split <;> decide
  refine q_asg st (st.at (en_cut (st.c.v 0 rfl) (eo_some (ev_call1 (st.c.v 0 rfl) ?_)) eo_none).ev) fun F H σ st => ?_
  · trivial
  rw [cut_from hs0] at st
  have st : Ok K _ F H σ [Vl row, Vl (R.digitsOf row), .any] := st
  have hl : (R.digitsOf row).length ≤ 1000000 := by
    unfold R.digitsOf
    rw [List.length_drop]
    omega
  refine q_if st (et_or (et_test (ev_eq (ev_len (st.h.v 1 rfl)) ev_int)) (fun hs => (et_not (et_B (ev_all (en_map st.h (ei_list (st.h.v 1 rfl)) ?_ (fun y F1 σ1 hy c => (ev_chainLe ev_int (c.v 2 rfl) ev_int))).ev))))) (fun hb F H st => ?_) (fun hb F H st => ?_)
  · omega
  · refine s_retF st ev_bl ?_ q
    rw [List.all_map] at hb
    have hb2 : (R.digitsOf row).length = 0 ∨ (R.digitsOf row).all R.isDigit = false := by
      rcases Bool.or_eq_true_iff.mp hb with h | h
      · left; have := of_decide_eq_true h; omega
      · right
        have h2 : (!(R.digitsOf row).all R.isDigit) = true := h
        simpa using h2
    exact (if_pos hb2).symm
  · rw [List.all_map] at hb
    have hb2 : ¬ ((R.digitsOf row).length = 0 ∨ (R.digitsOf row).all R.isDigit = false) := by
      rw [Bool.or_eq_false_iff] at hb
      rintro (h | h)
      · exact of_decide_eq_false hb.1 (by omega)
      · have h2 : (!(R.digitsOf row).all R.isDigit) = false := hb.2
        rw [h] at h2
        cases h2
    have h0 : (R.digitsOf row)[0]? = some ((R.digitsOf row).getD 0 0) := by
      cases hd : R.digitsOf row with
      | nil => exact absurd (.inl (by rw [hd]; rfl)) hb2
      | cons x r => rfl
    refine s_retF st (ev_or (ev_ne (ev_ix (x := ?_) (st.c.v 1 rfl) ev_int ?_) ev_int) (fun hs => (ev_eqL (st.c.v 0 rfl) (en_one ev_int).ev))) ?_ q
    · exact (R.digitsOf row).getD 0 0
    · exact atI_nat' (by decide) h0
    · exact (if_neg hb2).symm
/-! ### decimal_value -/
abbrev st17 : Stmt := top 17
abbrev N17 : List Str := ["row", "start", "total", "byte"]
theorem sc17 : FnScope N17 ["row"] (defScope st17) := ⟨rfl, rfl, rfl, by decide +kernel, rfl, by decide +kernel, by decide +kernel⟩
def p_decimal_value : (List Int) → Prop := fun _ => True
set_option maxHeartbeats 4000000 in
theorem ok_decimal_value (e : Env K mg) : FnAt P w K mg "decimal_value" 2 ["row"] (Sp1 K p_decimal_value (R.decimalValue)) := by
  refine fn1 (e.defs 16 17 "decimal_value" rfl) sc17 rfl (fun _ _ _ _ _ _ us hu => match us, hu with | [_], _ => rfl) fun base f row hp cdv A outer s H E hr => ⟨_,
    (pss_cons (ps_set (i := 1) sc17.nd rfl (by first | exact .inl rfl | exact .inr rfl) (pe_fn (ok_sign_length e) (hr.mono (by decide)) (by rfl) (pa_cons (pv 0) pa_nil) pass0))
      (pss_cons (ps_set (i := 2) sc17.nd rfl (by first | exact .inl rfl | exact .inr rfl) pe_int)
      (pss_cons (ps_for PassesOwn.never rfl (pi_list (pe_slice (sll_of (K := K) rfl) (pv 0) (po_some (pv 1)) po_none)) (pg_name (i := 3) sc17.nd rfl (by first | exact .inl rfl | exact .inr rfl)) (pss_one (ps_set (i := 2) sc17.nd rfl (by first | exact .inl rfl | exact .inr rfl) (pe_op op_sub (pe_op op_add (pe_op op_mul (pv 2) pe_int) (pv 3)) pe_int))))
      (pss_one (ps_ret (pe_ifExp (pt_cmpR op_eq (pv 1) pe_int (nomark _)) (pe_un un_neg (pv 2)) (pv 2))))))), fun F0 σ Q st q => ?_⟩
  have st : Ok K ⟨F0, H, F0⟩ F0 H σ [Vl row, .any, .any, .any] := st
  have hs0 : 0 ≤ R.signLength row := by unfold R.signLength; split <;> decide
  refine q_asg st (st.at (ev_call1 (st.c.v 0 rfl) ?_)) fun F H σ st => ?_
  · trivial
  refine q_asg st (st.at ev_int) fun F H σ st => ?_
  have st : Ok K _ F H σ [Vl row, Vl (R.signLength row), Vl (0 : Int), .any] := st
  have it := (ei_list (en_cut (st.c.v 0 rfl) (eo_some (st.c.v 1 rfl)) eo_none).ev)
  rw [cut_from hs0] at it
  refine q_for st it (fun y => g_name) (fun i Γ => ∃ s, Γ = [Vl row, Vl (R.signLength row), Vl (((R.digitsOf row).take i).foldl R.decStep 0), s]) ⟨_, rfl⟩ ?_ ?_
  · rintro G i b F H σ Γ hb ⟨s, rfl⟩ st
    have st : Ok K _ F H σ [Vl row, Vl (R.signLength row), Vl (((R.digitsOf row).take i).foldl R.decStep 0), Vl b] := st
    refine s_asg st (st.at (ev_sub (ev_add (ev_mul (st.c.v 2 rfl) ev_int ?_) (st.c.v 3 rfl)) ev_int)) fun F H σ st => ⟨_, _, st, Vl b, ?_⟩
    · exact cmul_r (by decide)
    · have hb2 : (R.digitsOf row)[i]? = some b := hb
      rw [List.take_add_one, hb2, List.foldl_append]
      rfl
  · rintro F H σ Γ ⟨s, rfl⟩ st
    have e2 : ((R.digitsOf row).take (row.drop (R.signLength row).toNat).length) = R.digitsOf row := by
      show ((row.drop (R.signLength row).toNat).take _) = _
      rw [List.take_length]
      rfl
    rw [e2] at st
    refine s_retF st (ev_ite (et_test (ev_eq (st.c.v 1 rfl) ev_int)) (fun hs => (ev_neg (st.c.v 2 rfl))) (fun hs => (st.c.v 2 rfl))) ?_ q
    unfold R.decimalValue
    by_cases h : R.signLength row = 1
    · rw [if_pos (decide_eq_true h), if_pos h]
    · rw [if_neg (by rw [decide_eq_false h]; decide), if_neg h]
/-! ### listed -/
abbrev st18 : Stmt := top 18
abbrev N18 : List Str := ["lines", "flat", "line"]
theorem sc18 : FnScope N18 ["lines"] (defScope st18) := ⟨rfl, rfl, rfl, by decide +kernel, rfl, by decide +kernel, by decide +kernel⟩
def p_listed : (List (List Int)) → Prop := fun l => (R.listed l).length ≤ 16777216
set_option maxHeartbeats 4000000 in
theorem ok_listed (e : Env K mg) : FnAt P w K mg "listed" 1 ["lines"] (Sp1 K p_listed (R.listed)) := by
  refine fn1 (e.defs 17 18 "listed" rfl) sc18 rfl (fun _ _ _ _ _ _ us hu => match us, hu with | [_], _ => rfl) fun base f lines hp cdv A outer s H E hr => ⟨_,
    (pss_cons (ps_set (i := 1) sc18.nd rfl (by first | exact .inl rfl | exact .inr rfl) (pe_lst (pa_cons (pe_callB (len_of (K := K) rfl) (by rfl) (e.free "len" (by decide)) boot_len (pa_cons (pv 0) pa_nil)) pa_nil)))
      (pss_cons (ps_for PassesOwn.never rfl (pi_list (pv 0)) (pg_name (i := 2) sc18.nd rfl (by first | exact .inl rfl | exact .inr rfl)) (pss_cons (ps_expr (pe_bm PySem.F.plainAttrs_list PySem.F.slot_list_append PySem.F.type_list_append mt_append (pv 1) (pa_cons (pe_callB (len_of (K := K) rfl) (by rfl) (e.free "len" (by decide)) boot_len (pa_cons (pv 2) pa_nil)) pa_nil)))
      (pss_one (ps_expr (pe_bm PySem.F.plainAttrs_list PySem.F.slot_list_extend PySem.F.type_list_extend mt_extend (pv 1) (pa_cons (pv 2) pa_nil))))))
      (pss_one (ps_ret (pv 1))))), fun F0 σ Q st q => ?_⟩
  have st : Ok K ⟨F0, H, F0⟩ F0 H σ [Vl lines, .any, .any] := st
  have hp : (R.listed lines).length ≤ 16777216 := hp
  refine q_newM st (en_one (ev_len (st.c.v 0 rfl))) fun pf F H σ st => ?_
  refine q_for st (ei_list (st.c.v 0 rfl)) (fun y => g_name) (fun i Γ => ∃ pf s, Γ = [Vl lines, Mu pf ((lines.length : Int) :: (lines.take i).flatMap fun l => (l.length : Int) :: l), s]) ⟨pf, _, rfl⟩ ?_ ?_
  · rintro G i b F H σ Γ hb ⟨pf, s, rfl⟩ st
    have st : Ok K _ F H σ [Vl lines, Mu pf ((lines.length : Int) :: (lines.take i).flatMap fun l => (l.length : Int) :: l), Vl b] := st
    have take1 : lines.take (i + 1) = lines.take i ++ [b] := by
      rw [List.take_add_one, hb]
      rfl
    have bnd : ((lines.take (i + 1)).flatMap fun l => (l.length : Int) :: l).length + 1 ≤ 16777216 := by
      refine Nat.le_trans ?_ hp
      unfold R.listed
      rw [List.length_cons]
      exact Nat.succ_le_succ (R.flatMap_take_le (α := List Int) (fun l => (l.length : Int) :: l) lines (i + 1))
    rw [take1, List.flatMap_append, List.length_append] at bnd
    have e1 : ([b].flatMap fun l : R.B => (l.length : Int) :: l) = (b.length : Int) :: b := by rw [List.flatMap_cons, List.flatMap_nil, List.append_nil]
    rw [e1, List.length_cons] at bnd
    refine q_app st rfl (st.at (ev_len (st.c.v 2 rfl))) ?_ fun F H st => ?_
    · rw [List.length_cons]; omega
    refine s_ext st rfl (st.at (st.c.v 2 rfl)) ?_ fun F H st => ⟨_, _, st, pf, Vl b, ?_⟩
    · rw [List.length_append, List.length_cons, List.length_singleton]; omega
    rw [take1, List.flatMap_append, e1]
    have e2 : ∀ (x : Int) (l m : R.B) (y : Int), (x :: l) ++ [y] ++ m = x :: (l ++ y :: m) := fun x l m y => by simp
    rw [← e2]
    rfl
  · rintro F H σ Γ ⟨pf, s, rfl⟩ st
    rw [List.take_length] at st
    obtain ⟨F, st⟩ := st.freeze 1 rfl
    exact s_retF st (st.c.v 1 rfl) rfl q
end
end Wk
end
section
set_option Elab.async false
set_option linter.all false
set_option maxRecDepth 100000
set_option maxHeartbeats 4000000
/-! The walk, printed by wip/g/gen.py. -/
namespace Wk
open PySem PySem.Spec PyProof.Rows L2 Ty
open Rep (rep)
section
variable {w : World} {K : Fg} {mg : Str → Option Value}
/-! ### number_cell -/
abbrev st21 : Stmt := top 21
abbrev N21 : List Str := ["number"]
theorem sc21 : FnScope N21 ["number"] (defScope st21) := ⟨rfl, rfl, rfl, by decide +kernel, rfl, by decide +kernel, by decide +kernel⟩
def p_number_cell : Int → Prop := fun _ => True
set_option maxHeartbeats 4000000 in
theorem ok_number_cell (e : Env K mg) : FnAt P w K mg "number_cell" 1 ["number"] (Sp1 K p_number_cell (R.numberCell)) := by
  refine fn1 (e.defs 18 21 "number_cell" rfl) sc21 rfl (fun _ _ _ _ _ _ us hu => match us, hu with | [_], _ => rfl) fun base f number hp cdv A outer s H E hr => ⟨_,
    (pss_one (ps_ret (pe_tup (pa_cons pe_int (pa_cons (pv 0) (pa_cons (pe_lst pa_nil) pa_nil)))))), fun F0 σ Q st q => ?_⟩
  have st : Ok K ⟨F0, H, F0⟩ F0 H σ [Vl number] := st
  exact s_retF st (ev_t3 ev_int (st.c.v 0 rfl) en_nil.ev) rfl q
/-! ### text_cell -/
abbrev st22 : Stmt := top 22
abbrev N22 : List Str := ["text"]
theorem sc22 : FnScope N22 ["text"] (defScope st22) := ⟨rfl, rfl, rfl, by decide +kernel, rfl, by decide +kernel, by decide +kernel⟩
def p_text_cell : (List Int) → Prop := fun _ => True
set_option maxHeartbeats 4000000 in
theorem ok_text_cell (e : Env K mg) : FnAt P w K mg "text_cell" 1 ["text"] (Sp1 K p_text_cell (R.textCell)) := by
  refine fn1 (e.defs 19 22 "text_cell" rfl) sc22 rfl (fun _ _ _ _ _ _ us hu => match us, hu with | [_], _ => rfl) fun base f text hp cdv A outer s H E hr => ⟨_,
    (pss_one (ps_ret (pe_tup (pa_cons pe_int (pa_cons pe_int (pa_cons (pv 0) pa_nil)))))), fun F0 σ Q st q => ?_⟩
  have st : Ok K ⟨F0, H, F0⟩ F0 H σ [Vl text] := st
  exact s_retF st (ev_t3 ev_int ev_int (st.c.v 0 rfl)) rfl q
/-! ### is_number -/
abbrev st23 : Stmt := top 23
abbrev N23 : List Str := ["cell"]
theorem sc23 : FnScope N23 ["cell"] (defScope st23) := ⟨rfl, rfl, rfl, by decide +kernel, rfl, by decide +kernel, by decide +kernel⟩
def p_is_number : R.Cell → Prop := fun _ => True
set_option maxHeartbeats 4000000 in
theorem ok_is_number (e : Env K mg) : FnAt P w K mg "is_number" 1 ["cell"] (Sp1 K p_is_number (R.isNumber)) := by
  refine fn1 (e.defs 20 23 "is_number" rfl) sc23 rfl (fun _ _ _ _ _ _ us hu => match us, hu with | [_], _ => rfl) fun base f cell hp cdv A outer s H E hr => ⟨_,
    (pss_one (ps_ret (pe_cmpR op_eq (pe_ix ix_tup (pv 0) pe_int (fun _ _ => rfl)) pe_int (nomark _)))), fun F0 σ Q st q => ?_⟩
  have st : Ok K ⟨F0, H, F0⟩ F0 H σ [Vl cell] := st
  exact s_retF st (ev_eq (ev_t3a (st.c.v 0 rfl) ev_int) ev_int) rfl q
/-! ### cell_at -/
abbrev st24 : Stmt := top 24
abbrev N24 : List Str := ["numbers", "at", "end", "text"]
theorem sc24 : FnScope N24 ["numbers", "at"] (defScope st24) := ⟨rfl, rfl, rfl, by decide +kernel, rfl, by decide +kernel, by decide +kernel⟩
def p_cell_at : (List Int) → Int → Prop := fun _ a => 0 ≤ a
set_option maxHeartbeats 4000000 in
theorem ok_cell_at (e : Env K mg) : FnAt P w K mg "cell_at" 3 ["numbers", "at"] (Sp2 K p_cell_at (R.cellAt)) := by
  refine fn2 (e.defs 21 24 "cell_at" rfl) sc24 rfl (fun _ _ _ _ _ _ us hu => match us, hu with | [_, _], _ => rfl) fun base f numbers at' hp cdv A outer s H E hr => ⟨_,
    (pss_cons (ps_if (PW.pt (pw_or (pt_cmpR op_gt (pe_op op_add (pv 1) pe_int) (pe_callB call_len_seq (by rfl) (e.free "len" (by decide)) boot_len (pa_cons (pv 0) pa_nil)) (nomark _)) (pw_or (pt_cmpR op_lt (pe_ix ix_list (pv 0) (pv 1) (fun _ _ => rfl)) pe_int (nomark _)) (pw_or1 (pt_cmpR op_gt (pe_ix ix_list (pv 0) (pv 1) (fun _ _ => rfl)) pe_int (nomark _)))))) (pss_one (ps_ret (pe_tup (pa_cons (pe_un un_neg pe_int) (pa_cons (pe_fn (ok_number_cell e) (hr.mono (by decide)) (by rfl) (pa_cons pe_int pa_nil) pass0) pa_nil))))) pss_nil)
      (pss_cons (ps_if (pt_cmpR op_eq (pe_ix ix_list (pv 0) (pv 1) (fun _ _ => rfl)) pe_int (nomark _)) (pss_one (ps_ret (pe_tup (pa_cons (pe_op op_add (pv 1) pe_int) (pa_cons (pe_fn (ok_number_cell e) (hr.mono (by decide)) (by rfl) (pa_cons (pe_ix ix_list (pv 0) (pe_op op_add (pv 1) pe_int) (fun _ _ => rfl)) pa_nil) pass0) pa_nil))))) pss_nil)
      (pss_cons (ps_set (i := 2) sc24.nd rfl (by first | exact .inl rfl | exact .inr rfl) (pe_op op_add (pe_op op_add (pv 1) pe_int) (pe_ix ix_list (pv 0) (pe_op op_add (pv 1) pe_int) (fun _ _ => rfl))))
      (pss_cons (ps_if (PW.pt (pw_or (pt_cmpR op_lt (pe_ix ix_list (pv 0) (pe_op op_add (pv 1) pe_int) (fun _ _ => rfl)) pe_int (nomark _)) (pw_or (pt_cmpR op_gt (pe_ix ix_list (pv 0) (pe_op op_add (pv 1) pe_int) (fun _ _ => rfl)) pe_int (nomark _)) (pw_or1 (pt_cmpR op_gt (pv 2) (pe_callB call_len_seq (by rfl) (e.free "len" (by decide)) boot_len (pa_cons (pv 0) pa_nil)) (nomark _)))))) (pss_one (ps_ret (pe_tup (pa_cons (pe_un un_neg pe_int) (pa_cons (pe_fn (ok_number_cell e) (hr.mono (by decide)) (by rfl) (pa_cons pe_int pa_nil) pass0) pa_nil))))) pss_nil)
      (pss_cons (ps_set (i := 3) sc24.nd rfl (by first | exact .inl rfl | exact .inr rfl) (pe_slice sl_list (pv 0) (po_some (pe_op op_add (pv 1) pe_int)) (po_some (pv 2))))
      (pss_cons (ps_if (pt_not (pt_val (pe_fn (ok_is_text e) (hr.mono (by decide)) (by rfl) (pa_cons (pv 3) pa_nil) pass0))) (pss_one (ps_ret (pe_tup (pa_cons (pe_un un_neg pe_int) (pa_cons (pe_fn (ok_number_cell e) (hr.mono (by decide)) (by rfl) (pa_cons pe_int pa_nil) pass0) pa_nil))))) pss_nil)
      (pss_one (ps_ret (pe_tup (pa_cons (pv 2) (pa_cons (pe_fn (ok_text_cell e) (hr.mono (by decide)) (by rfl) (pa_cons (pv 3) pa_nil) pass0) pa_nil))))))))))), fun F0 σ Q st q => ?_⟩
  have st : Ok K ⟨F0, H, F0⟩ F0 H σ [Vl numbers, Vl at', .any, .any] := st
  have hp : 0 ≤ at' := hp
  refine q_if st (et_or (et_test (ev_gt (ev_add (st.h.v 1 rfl) ev_int) (ev_len (st.h.v 0 rfl)))) (fun hs => (et_or (et_test (ev_lt (ev_ix (x := (numbers.getD at'.toNat 0)) (st.h.v 0 rfl) (st.h.v 1 rfl) ?_) ev_int)) (fun hs => (et_test (ev_gt (ev_ix (x := (numbers.getD at'.toNat 0)) (st.h.v 0 rfl) (st.h.v 1 rfl) ?_) ev_int)))))) (fun hb F H st => ?_) (fun hb F H st => ?_)
  · have h := of_decide_eq_false hs
    exact atD hp (by omega)
  · have h := of_decide_eq_false (by assumption : decide ((numbers.length : Int) < at' + 2) = false)
    exact atD hp (by omega)
  · refine s_retF st (ev_pair (ev_neg ev_int) (ev_call1 ev_int ?_)) ?_ q
    · trivial
    · unfold R.cellAt
      by_cases h : (numbers.length : Int) < at' + 2
      · rw [R.cell1_short _ (by rw [List.length_drop]; omega)]
      · rw [decide_eq_false h, Bool.false_or] at hb
        rw [R.drop_two numbers at'.toNat (by omega), R.cell1_bad _ _ _ (by
          rcases Bool.or_eq_true_iff.mp hb with h | h
          · have := of_decide_eq_true h; omega
          · have := of_decide_eq_true h; omega)]
  rw [Bool.or_eq_false_iff, Bool.or_eq_false_iff] at hb
  obtain ⟨c1, c2, c3⟩ := hb
  have c1 := of_decide_eq_false c1
  have c2 := of_decide_eq_false c2
  have c3 := of_decide_eq_false c3
  have hlen : at'.toNat + 2 ≤ numbers.length := by omega
  have e2 := R.drop_two numbers at'.toNat hlen
  have i1 : atI numbers at' = some (numbers.getD at'.toNat 0) := atD hp (by omega)
  have i2 : atI numbers (at' + 1) = some (numbers.getD (at'.toNat + 1) 0) := by
    have h := atD (l := numbers) (i := at' + 1) (by omega) (by omega)
    rw [show (at' + 1).toNat = at'.toNat + 1 by omega] at h
    exact h
  generalize numbers.getD at'.toNat 0 = z at c2 c3 e2 i1
  generalize numbers.getD (at'.toNat + 1) 0 = n at e2 i2
  refine q_if st (et_test (ev_eq (ev_ix (x := ?_) (st.h.v 0 rfl) (st.h.v 1 rfl) ?_) ev_int)) (fun hb F H st => ?_) (fun hb F H st => ?_)
  · exact z
  · exact i1
  · refine s_retF st (ev_pair (ev_add (st.c.v 1 rfl) ev_int) (ev_call1 (ev_ix (x := ?_) (st.c.v 0 rfl) (ev_add (st.c.v 1 rfl) ev_int) ?_) ?_)) ?_ q
    · exact n
    · exact i2
    · trivial
    · unfold R.cellAt
      rw [e2, show z = 0 from of_decide_eq_true hb]
      rfl
  have hz : z = 1 := by
    have h := of_decide_eq_false hb
    omega
  refine q_asg st (st.at (ev_add (ev_add (st.c.v 1 rfl) ev_int) (ev_ix (x := ?_) (st.c.v 0 rfl) (ev_add (st.c.v 1 rfl) ev_int) ?_))) fun F H σ st => ?_
  · exact n
  · exact i2
  have st : Ok K _ F H σ [Vl numbers, Vl at', Vl (at' + 2 + n), .any] := st
  refine q_if st (et_or (et_test (ev_lt (ev_ix (x := (n)) (st.h.v 0 rfl) (ev_add (st.h.v 1 rfl) ev_int) ?_) ev_int)) (fun hs => (et_or (et_test (ev_gt (ev_ix (x := (n)) (st.h.v 0 rfl) (ev_add (st.h.v 1 rfl) ev_int) ?_) ev_int)) (fun hs => (et_test (ev_gt (st.h.v 2 rfl) (ev_len (st.h.v 0 rfl)))))))) (fun hb F H st => ?_) (fun hb F H st => ?_)
  · exact i2
  · exact i2
  · refine s_retF st (ev_pair (ev_neg ev_int) (ev_call1 ev_int ?_)) ?_ q
    · trivial
    · unfold R.cellAt
      rw [e2, hz]
      show _ = match (if (0 : Int) ≤ n ∧ n ≤ 200 ∧ n.toNat ≤ (numbers.drop (at'.toNat + 2)).length ∧ R.isText ((numbers.drop (at'.toNat + 2)).take n.toNat) = true then some (2 + n.toNat, R.textCell ((numbers.drop (at'.toNat + 2)).take n.toNat)) else none : Option (Nat × R.Cell)) with
        | none => ((-1 : Int), R.numberCell 0)
        | some (k, c) => (at' + k, c)
      rw [if_neg (by
        rintro ⟨h1, h2, h3, _⟩
        rw [List.length_drop] at h3
        rcases Bool.or_eq_true_iff.mp hb with h | h
        · have := of_decide_eq_true h; omega
        · rcases Bool.or_eq_true_iff.mp h with h | h
          · have := of_decide_eq_true h; omega
          · have := of_decide_eq_true h; omega)]
  rw [Bool.or_eq_false_iff, Bool.or_eq_false_iff] at hb
  obtain ⟨d1, d2, d3⟩ := hb
  have d1 := of_decide_eq_false d1
  have d2 := of_decide_eq_false d2
  have d3 := of_decide_eq_false d3
  have et : cut numbers (some (at' + 2)) (some (at' + 2 + n)) = (numbers.drop (at'.toNat + 2)).take n.toNat := by
    rw [cut_mid (by omega) (by omega), show (at' + 2).toNat = at'.toNat + 2 by omega, show (at' + 2 + n).toNat - (at'.toNat + 2) = n.toNat by omega]
  refine q_asg st (st.at (((en_cut (st.c.v 0 rfl) (eo_some (ev_add (st.c.v 1 rfl) ev_int)) (eo_some (st.c.v 2 rfl)))).cast et).ev) fun F H σ st => ?_
  have st : Ok K _ F H σ [Vl numbers, Vl at', Vl (at' + 2 + n), Vl ((numbers.drop (at'.toNat + 2)).take n.toNat)] := st
  refine q_if st (et_not (et_B (ev_call1 (st.h.v 3 rfl) ?_))) (fun hb F H st => ?_) (fun hb F H st => ?_)
  · trivial
  · refine s_retF st (ev_pair (ev_neg ev_int) (ev_call1 ev_int ?_)) ?_ q
    · trivial
    · unfold R.cellAt
      rw [e2, hz]
      show _ = match (if (0 : Int) ≤ n ∧ n ≤ 200 ∧ n.toNat ≤ (numbers.drop (at'.toNat + 2)).length ∧ R.isText ((numbers.drop (at'.toNat + 2)).take n.toNat) = true then some (2 + n.toNat, R.textCell ((numbers.drop (at'.toNat + 2)).take n.toNat)) else none : Option (Nat × R.Cell)) with
        | none => ((-1 : Int), R.numberCell 0)
        | some (k, c) => (at' + k, c)
      rw [if_neg (by
        rintro ⟨_, _, _, h4⟩
        rw [h4] at hb
        cases hb)]
  · refine s_retF st (ev_pair (st.c.v 2 rfl) (ev_call1 (st.c.v 3 rfl) ?_)) ?_ q
    · trivial
    · unfold R.cellAt
      rw [e2, hz]
      show _ = match (if (0 : Int) ≤ n ∧ n ≤ 200 ∧ n.toNat ≤ (numbers.drop (at'.toNat + 2)).length ∧ R.isText ((numbers.drop (at'.toNat + 2)).take n.toNat) = true then some (2 + n.toNat, R.textCell ((numbers.drop (at'.toNat + 2)).take n.toNat)) else none : Option (Nat × R.Cell)) with
        | none => ((-1 : Int), R.numberCell 0)
        | some (k, c) => (at' + k, c)
      rw [if_pos (by
        refine ⟨by omega, by omega, ?_, ?_⟩
        · rw [List.length_drop]; omega
        · simpa using hb)]
      show (at' + 2 + n, _) = (at' + ((2 + n.toNat : Nat) : Int), _)
      rw [show at' + ((2 + n.toNat : Nat) : Int) = at' + 2 + n by omega]
/-! ### decoded -/
abbrev st25 : Stmt := top 25
abbrev N25 : List Str := ["numbers", "cells", "at", "behind", "cell"]
theorem sc25 : FnScope N25 ["numbers"] (defScope st25) := ⟨rfl, rfl, rfl, by decide +kernel, rfl, by decide +kernel, by decide +kernel⟩
def p_decoded : (List Int) → Prop := fun l => l.length ≤ 1000000
set_option maxHeartbeats 4000000 in
theorem ok_decoded (e : Env K mg) : FnAt P w K mg "decoded" 4 ["numbers"] (Sp1 K p_decoded (R.decoded)) := by
  refine fn1 (e.defs 22 25 "decoded" rfl) sc25 rfl (fun _ _ _ _ _ _ us hu => match us, hu with | [_], _ => rfl) fun base f numbers hp cdv A outer s H E hr => ⟨_,
    (pss_cons (ps_set (i := 1) sc25.nd rfl (by first | exact .inl rfl | exact .inr rfl) (pe_lst pa_nil))
      (pss_cons (ps_set (i := 2) sc25.nd rfl (by first | exact .inl rfl | exact .inr rfl) pe_int)
      (pss_cons (ps_while PassesOwn.never (pt_cmpR op_lt (pv 2) (pe_callB call_len_seq (by rfl) (e.free "len" (by decide)) boot_len (pa_cons (pv 0) pa_nil)) (nomark _)) (pss_cons (ps_asg (pe_fn (ok_cell_at e) (hr.mono (by decide)) (by rfl) (pa_cons (pv 0) (pa_cons (pv 2) pa_nil)) pass0) (pg_tup rfl (pgs_cons (pg_name (i := 3) sc25.nd rfl (by first | exact .inl rfl | exact .inr rfl)) (pgs_cons (pg_name (i := 4) sc25.nd rfl (by first | exact .inl rfl | exact .inr rfl)) pgs_nil))))
      (pss_cons (ps_if (pt_cmpR op_lt (pv 3) pe_int (nomark _)) (pss_one (ps_ret (pe_tup (pa_cons pe_bl (pa_cons (pe_lst pa_nil) pa_nil))))) pss_nil)
      (pss_cons (ps_expr (pe_bm PySem.F.plainAttrs_list PySem.F.slot_list_append PySem.F.type_list_append mt_append (pv 1) (pa_cons (pv 4) pa_nil)))
      (pss_one (ps_set (i := 2) sc25.nd rfl (by first | exact .inl rfl | exact .inr rfl) (pv 3)))))))
      (pss_one (ps_ret (pe_tup (pa_cons pe_bl (pa_cons (pv 1) pa_nil)))))))), fun F0 σ Q st q => ?_⟩
  have st : Ok K ⟨F0, H, F0⟩ F0 H σ [Vl numbers, .any, .any, .any, .any] := st
  have hp : numbers.length ≤ 1000000 := hp
  refine q_newM st (en_nil (α := R.Cell)) fun pc F H σ st => ?_
  refine q_asg st (st.at ev_int) fun F H σ st => ?_
  refine q_while st (fun m Γ => ∃ (pc : Addr) (cs : List R.Cell) (a f : Nat) (s t : Ty.Slot), Γ = [Vl numbers, Mu pc cs, Vl (a : Int), s, t] ∧ a ≤ numbers.length ∧ numbers.length - a ≤ f ∧ m = numbers.length - a ∧ cs.length ≤ a ∧
    R.decGo numbers.length numbers = (R.decGo f (numbers.drop a)).map fun l => cs ++ l) numbers.length ⟨pc, [], 0, numbers.length, _, _, rfl, Nat.zero_le _, Nat.le_refl _, rfl, Nat.le_refl _, by simp⟩ ?_
  rintro m F H σ Γ ⟨pc, cs, a, f, s, t, rfl, ha, hf, rfl, hcs, heq⟩ st
  refine ⟨_, (et_test (ev_lt (st.h.v 2 rfl) (ev_len (st.h.v 0 rfl)))), fun hb F H st => ?_, fun hb F H st => ?_⟩
  · have hlt : a < numbers.length := by have := of_decide_eq_true hb; omega
    obtain ⟨f, rfl⟩ : ∃ g, f = g + 1 := ⟨f - 1, by omega⟩
    refine q_asgG st (st.at (ev_call2 (st.c.v 0 rfl) (st.c.v 2 rfl) ?_)) g_pair fun F H σ st => ?_
    · exact Int.natCast_nonneg _
    have st : Ok K _ F H σ [Vl numbers, Mu pc cs, Vl (a : Int), Vl (R.cellAt numbers (a : Int)).1, Vl (R.cellAt numbers (a : Int)).2] := st
    have hne : numbers.drop a ≠ [] := fun z => by
      have := congrArg List.length z
      rw [List.length_drop, List.length_nil] at this
      omega
    rw [R.decGo_step _ _ hne] at heq
    have hcell : R.cellAt numbers (a : Int) = match R.cell1 (numbers.drop a) with
      | none => ((-1 : Int), R.numberCell 0)
      | some (k, c) => ((a : Int) + k, c) := rfl
    cases hc : R.cell1 (numbers.drop a) with
    | none =>
      rw [hc] at hcell heq
      rw [hcell] at st
      refine q_if st (et_test (ev_lt (st.h.v 3 rfl) ev_int)) (fun hb F H st => ?_) (fun hb F H st => ?_)
      · refine s_retF st (ev_pair ev_bl en_nil.ev) ?_ q
        unfold R.decoded
        rw [heq]
        rfl
      · exact absurd (show ((-1 : Int) < 0) by decide) (of_decide_eq_false hb)
    | some kc =>
      obtain ⟨k, c⟩ := kc
      rw [hc] at hcell heq
      rw [hcell] at st
      have heq : R.decGo numbers.length numbers = ((R.decGo f ((numbers.drop a).drop k)).map fun m => c :: m).map fun l => cs ++ l := heq
      have hk := R.cell1_le hc
      rw [List.length_drop] at hk
      refine q_if st (et_test (ev_lt (st.h.v 3 rfl) ev_int)) (fun hb F H st => ?_) (fun hb F H st => ?_)
      · have h2 : (a : Int) + (k : Int) < 0 := of_decide_eq_true hb
        omega
      · refine q_app st rfl (st.at (st.c.v 4 rfl)) ?_ fun F H st => ?_
        · omega
        refine s_asg st (st.at (st.c.v 3 rfl)) fun F H σ st => ⟨_, _, st, numbers.length - (a + k), by omega, pc, cs ++ [c], a + k, f, Vl ((a : Int) + k), Vl c, ?_, by omega, by omega, rfl, ?_, ?_⟩
        · have e : (((a + k : Nat)) : Int) = (a : Int) + (k : Int) := by omega
          rw [e]
          rfl
        · rw [List.length_append, List.length_singleton]
          omega
        · rw [heq, List.drop_drop, Option.map_map]
          congr 1
          funext l
          simp
  · have e : a = numbers.length := by have := of_decide_eq_false hb; omega
    subst e
    obtain ⟨F, st⟩ := st.freeze 1 rfl
    refine s_retF st (ev_pair ev_bl (st.c.v 1 rfl)) ?_ q
    unfold R.decoded
    rw [heq, List.drop_length]
    cases f <;> simp [R.decGo]
/-! ### encoded -/
abbrev st26 : Stmt := top 26
abbrev N26 : List Str := ["cells", "flat", "kind", "number", "text"]
theorem sc26 : FnScope N26 ["cells"] (defScope st26) := ⟨rfl, rfl, rfl, by decide +kernel, rfl, by decide +kernel, by decide +kernel⟩
def p_encoded : (List R.Cell) → Prop := fun c => (R.encoded c).length ≤ 16777216
set_option maxHeartbeats 4000000 in
theorem ok_encoded (e : Env K mg) : FnAt P w K mg "encoded" 1 ["cells"] (Sp1 K p_encoded (R.encoded)) := by
  refine fn1 (e.defs 23 26 "encoded" rfl) sc26 rfl (fun _ _ _ _ _ _ us hu => match us, hu with | [_], _ => rfl) fun base f cells hp cdv A outer s H E hr => ⟨_,
    (pss_cons (ps_set (i := 1) sc26.nd rfl (by first | exact .inl rfl | exact .inr rfl) (pe_lst pa_nil))
      (pss_cons (ps_for PassesOwn.never rfl (pi_list (pv 0)) (pg_tup rfl (pgs_cons (pg_name (i := 2) sc26.nd rfl (by first | exact .inl rfl | exact .inr rfl)) (pgs_cons (pg_name (i := 3) sc26.nd rfl (by first | exact .inl rfl | exact .inr rfl)) (pgs_cons (pg_name (i := 4) sc26.nd rfl (by first | exact .inl rfl | exact .inr rfl)) pgs_nil)))) (pss_one (ps_if (pt_cmpR op_eq (pv 2) pe_int (nomark _)) (pss_one (ps_expr (pe_bm PySem.F.plainAttrs_list PySem.F.slot_list_extend PySem.F.type_list_extend mt_extend (pv 1) (pa_cons (pe_lst (pa_cons pe_int (pa_cons (pv 3) pa_nil))) pa_nil)))) (pss_cons (ps_expr (pe_bm PySem.F.plainAttrs_list PySem.F.slot_list_extend PySem.F.type_list_extend mt_extend (pv 1) (pa_cons (pe_lst (pa_cons pe_int (pa_cons (pe_callB call_len_seq (by rfl) (e.free "len" (by decide)) boot_len (pa_cons (pv 4) pa_nil)) pa_nil))) pa_nil)))
      (pss_one (ps_expr (pe_bm PySem.F.plainAttrs_list PySem.F.slot_list_extend PySem.F.type_list_extend mt_extend (pv 1) (pa_cons (pv 4) pa_nil))))))))
      (pss_one (ps_ret (pv 1))))), fun F0 σ Q st q => ?_⟩
  have st : Ok K ⟨F0, H, F0⟩ F0 H σ [Vl cells, .any, .any, .any, .any] := st
  have hp : (R.encoded cells).length ≤ 16777216 := hp
  refine q_newM st (en_nil (α := Int)) fun pf F H σ st => ?_
  refine q_for st (ei_list (st.c.v 0 rfl)) (fun y => g_t3) (fun i Γ => ∃ pf s t u, Γ = [Vl cells, Mu pf (R.encoded (cells.take i)), s, t, u]) ⟨pf, _, _, _, rfl⟩ ?_ ?_
  · rintro G i b F H σ Γ hb ⟨pf, s, t, u, rfl⟩ st
    have st : Ok K _ F H σ [Vl cells, Mu pf (R.encoded (cells.take i)), Vl b.a, Vl b.b, Vl b.c] := st
    have take1 : cells.take (i + 1) = cells.take i ++ [b] := by
      rw [List.take_add_one, hb]
      rfl
    have e1 : R.encoded (cells.take (i + 1)) = R.encoded (cells.take i) ++ R.encCell b := by
      unfold R.encoded
      rw [take1, List.flatMap_append, List.flatMap_cons, List.flatMap_nil, List.append_nil]
    have bnd : (R.encoded (cells.take (i + 1))).length ≤ 16777216 := Nat.le_trans (R.flatMap_take_le R.encCell cells (i + 1)) hp
    rw [e1, List.length_append] at bnd
    unfold R.encCell at bnd e1
    refine s_if st (et_test (ev_eq (st.h.v 2 rfl) ev_int)) (fun hc F H st => ?_) (fun hc F H st => ?_)
    · have hc := of_decide_eq_true hc
      rw [if_pos hc] at bnd e1
      refine s_ext st rfl (st.at (en_two ev_int (st.c.v 3 rfl)).ev) ?_ fun F H st => ⟨_, _, st, pf, Vl b.a, Vl b.b, Vl b.c, ?_⟩
      · exact bnd
      · rw [e1]
        rfl
    · have hc := of_decide_eq_false hc
      rw [if_neg hc, List.length_cons, List.length_cons] at bnd
      rw [if_neg hc] at e1
      refine q_ext st rfl (st.at (en_two ev_int (ev_len (st.c.v 4 rfl))).ev) ?_ fun F H st => ?_
      · rw [List.length_cons, List.length_singleton]
        omega
      refine s_ext st rfl (st.at (st.c.v 4 rfl)) ?_ fun F H st => ⟨_, _, st, pf, Vl b.a, Vl b.b, Vl b.c, ?_⟩
      · rw [List.length_append, List.length_cons, List.length_singleton]
        omega
      · rw [e1]
        have e2 : R.encoded (cells.take i) ++ 1 :: (b.c.length : Int) :: b.c = R.encoded (cells.take i) ++ [1, (b.c.length : Int)] ++ b.c := by simp
        rw [e2]
        rfl
  · rintro F H σ Γ ⟨pf, s, t, u, rfl⟩ st
    rw [List.take_length] at st
    obtain ⟨F, st⟩ := st.freeze 1 rfl
    exact s_retF st (st.c.v 1 rfl) rfl q
/-! ### is_plain -/
abbrev st27 : Stmt := top 27
abbrev N27 : List Str := ["text", "byte"]
theorem sc27 : FnScope N27 ["text"] (defScope st27) := ⟨rfl, rfl, rfl, by decide +kernel, rfl, by decide +kernel, by decide +kernel⟩
def p_is_plain : (List Int) → Prop := fun t => t.length ≤ 1000000
set_option maxHeartbeats 4000000 in
theorem ok_is_plain (e : Env K mg) : FnAt P w K mg "is_plain" 3 ["text"] (Sp1 K p_is_plain (R.isPlain)) := by
  obtain ⟨hEa, hEg, hEd⟩ := e.esc
  refine fn1 (e.defs 24 27 "is_plain" rfl) sc27 rfl (fun _ _ _ _ _ _ us hu => match us, hu with | [_], _ => rfl) fun base f text hp cdv A outer s H E hr => ⟨_,
    (pss_cons (ps_if (PW.pt (pw_or (pt_cmpR op_eq (pe_callB call_len_seq (by rfl) (e.free "len" (by decide)) boot_len (pa_cons (pv 0) pa_nil)) pe_int (nomark _)) (pw_or (pt_cmpR op_eq (pe_ix ix_list (pv 0) pe_int (fun _ _ => rfl)) pe_int (nomark _)) (pw_or1 (pt_cmpR op_eq (pe_ix ix_list (pv 0) (pe_un un_neg pe_int) (fun _ _ => rfl)) pe_int (nomark _)))))) (pss_one (ps_ret pe_bl)) pss_nil)
      (pss_cons (ps_if (pt_val (pe_callB (cr_any rfl) (by rfl) (e.free "any" (by decide)) (by decide +kernel) (pa_cons (pe_lc (own := [("byte", 1)]) (g := gName 1) rfl sc27.nd (pi_list (pv 0)) (blkOk_by (own := [("byte", 1)]) (N := N27) (sc := defScope st27) (by decide +kernel)) (fun _ _ _ _ _ => (pg_name (i := 1) sc27.nd rfl (by first | exact .inl rfl | exact .inr rfl))) (fun _ _ _ _ _ => pts_nil) (fun _ _ _ _ _ => (pe_cmpR (op_inD hEd) (pv 1) (pe_glob (v := .ref hEa) (by rfl) hEg rfl) rfl))) pa_nil))) (pss_one (ps_ret pe_bl)) pss_nil)
      (pss_one (ps_ret (pe_not (pe_fn (ok_is_decimal e) (hr.mono (by decide)) (by rfl) (pa_cons (pv 0) pa_nil) pass0)))))), fun F0 σ Q st q => ?_⟩
  have st : Ok K ⟨F0, H, F0⟩ F0 H σ [Vl text, .any] := st
  have hp : text.length ≤ 1000000 := hp
  refine q_if st (et_or (et_test (ev_eq (ev_len (st.h.v 0 rfl)) ev_int)) (fun hs => (et_or (et_test (ev_eq (ev_ix (x := (text.getD 0 0)) (st.h.v 0 rfl) ev_int ?_) ev_int)) (fun hs => (et_test (ev_eq (ev_ix (x := (text.getD (text.length - 1) 0)) (st.h.v 0 rfl) (ev_neg ev_int) ?_) ev_int)))))) (fun hb F H st => ?_) (fun hb F H st => ?_)
  · have h := of_decide_eq_false hs
    exact atD (by decide) (by omega)
  · have h := of_decide_eq_false (by assumption : decide ((text.length : Int) = 0) = false)
    exact atI_end (R.getD_some (by omega))
  · refine s_retF st ev_bl ?_ q
    refine (if_pos ?_).symm
    rcases Bool.or_eq_true_iff.mp hb with h | h
    · left; have := of_decide_eq_true h; omega
    · right
      rcases Bool.or_eq_true_iff.mp h with h | h
      · exact .inl (of_decide_eq_true h)
      · exact .inr (of_decide_eq_true h)
  have hn : ¬ (text.length = 0 ∨ text.getD 0 0 = 32 ∨ text.getD (text.length - 1) 0 = 32) := by
    rw [Bool.or_eq_false_iff, Bool.or_eq_false_iff] at hb
    rintro (h | h | h)
    · exact of_decide_eq_false hb.1 (by omega)
    · exact of_decide_eq_false hb.2.1 h
    · exact of_decide_eq_false hb.2.2 h
  refine q_if st (et_B (ev_any (en_map st.h (ei_list (st.h.v 0 rfl)) ?_ (fun y F1 σ1 hy c => (ev_inD (c.v 1 rfl)))).ev)) (fun hb F H st => ?_) (fun hb F H st => ?_)
  · omega
  · refine s_retF st ev_bl ?_ q
    rw [List.any_map] at hb
    exact ((if_neg hn).trans (if_pos hb)).symm
  · refine s_retF st (ev_not (ev_call1 (st.c.v 0 rfl) ?_)) ?_ q
    · exact hp
    · rw [List.any_map] at hb
      exact ((if_neg hn).trans (if_neg (by
        intro z
        have z2 : text.any (id ∘ fun b => (R.escapes b).isSome) = true := z
        rw [hb] at z2
        cases z2))).symm
/-! ### quoted -/
abbrev st28 : Stmt := top 28
abbrev N28 : List Str := ["text", "row", "byte"]
theorem sc28 : FnScope N28 ["text"] (defScope st28) := ⟨rfl, rfl, rfl, by decide +kernel, rfl, by decide +kernel, by decide +kernel⟩
def p_quoted : (List Int) → Prop := fun t => t.length ≤ 1000000
set_option maxHeartbeats 4000000 in
theorem ok_quoted (e : Env K mg) : FnAt P w K mg "quoted" 1 ["text"] (Sp1 K p_quoted (R.quoted)) := by
  obtain ⟨hEa, hEg, hEd⟩ := e.esc
  refine fn1 (e.defs 25 28 "quoted" rfl) sc28 rfl (fun _ _ _ _ _ _ us hu => match us, hu with | [_], _ => rfl) fun base f text hp cdv A outer s H E hr => ⟨_,
    (pss_cons (ps_set (i := 1) sc28.nd rfl (by first | exact .inl rfl | exact .inr rfl) (pe_lst (pa_cons pe_int pa_nil)))
      (pss_cons (ps_for PassesOwn.never rfl (pi_list (pv 0)) (pg_name (i := 2) sc28.nd rfl (by first | exact .inl rfl | exact .inr rfl)) (pss_one (ps_if (pt_cmpR (op_inD hEd) (pv 2) (pe_glob (v := .ref hEa) (by rfl) hEg rfl) rfl) (pss_one (ps_expr (pe_bm PySem.F.plainAttrs_list PySem.F.slot_list_extend PySem.F.type_list_extend mt_extend (pv 1) (pa_cons (pe_lst (pa_cons pe_int (pa_cons (pe_ix (ix_D hEd) (pe_glob (v := .ref hEa) (by rfl) hEg rfl) (pv 2) (fun _ _ => rfl)) pa_nil))) pa_nil)))) (pss_one (ps_expr (pe_bm PySem.F.plainAttrs_list PySem.F.slot_list_append PySem.F.type_list_append mt_append (pv 1) (pa_cons (pv 2) pa_nil)))))))
      (pss_one (ps_ret (pe_op op_cat (pv 1) (pe_lst (pa_cons pe_int pa_nil))))))), fun F0 σ Q st q => ?_⟩
  have st : Ok K ⟨F0, H, F0⟩ F0 H σ [Vl text, .any, .any] := st
  have hp : text.length ≤ 1000000 := hp
  refine q_newM st (en_one ev_int) fun pr F H σ st => ?_
  refine q_for st (ei_list (st.c.v 0 rfl)) (fun y => g_name) (fun i Γ => ∃ pr s, Γ = [Vl text, Mu pr (34 :: (text.take i).flatMap R.quoteByte), s]) ⟨pr, _, rfl⟩ ?_ ?_
  · rintro G i b F H σ Γ hb ⟨pr, s, rfl⟩ st
    have st : Ok K _ F H σ [Vl text, Mu pr (34 :: (text.take i).flatMap R.quoteByte), Vl b] := st
    have hi : i < text.length := (List.getElem?_eq_some_iff.mp hb).1
    have e1 : (34 :: (text.take (i + 1)).flatMap R.quoteByte : R.B) = (34 :: (text.take i).flatMap R.quoteByte) ++ R.quoteByte b := by
      rw [List.take_add_one, hb, List.flatMap_append]
      simp
    have bnd := R.quote_len (text.take i)
    rw [List.length_take] at bnd
    refine s_if st (et_test (ev_inD (st.h.v 2 rfl))) (fun hc F H st => ?_) (fun hc F H st => ?_)
    · obtain ⟨m, hm⟩ := Option.isSome_iff_exists.mp hc
      refine s_ext st rfl (st.at (en_two ev_int (ev_ixD (m := ?_) (st.c.v 2 rfl) ?_)).ev) ?_ fun F H st => ⟨_, _, st, pr, Vl b, ?_⟩
      · exact m
      · exact hm
      · rw [List.length_cons]
        show _ + 2 ≤ _
        omega
      · rw [e1]
        unfold R.quoteByte
        rw [hm]
        rfl
    · have hm : R.escapes b = none := by
        cases h : R.escapes b with
        | none => rfl
        | some m => rw [h] at hc; cases hc
      refine s_app st rfl (st.at (st.c.v 2 rfl)) ?_ fun F H st => ⟨_, _, st, pr, Vl b, ?_⟩
      · rw [List.length_cons]
        omega
      · rw [e1]
        unfold R.quoteByte
        rw [hm]
        rfl
  · rintro F H σ Γ ⟨pr, s, rfl⟩ st
    rw [List.take_length] at st
    obtain ⟨F, st⟩ := st.freeze 1 rfl
    have bnd := R.quote_len text
    refine s_retF st (en_cat (st.c.v 1 rfl) (en_one ev_int).ev ?_).ev rfl q
    rw [List.length_cons]
    show _ + 1 ≤ _
    omega
/-! ### printed -/
abbrev st29 : Stmt := top 29
abbrev N29 : List Str := ["cell", "kind", "number", "text"]
theorem sc29 : FnScope N29 ["cell"] (defScope st29) := ⟨rfl, rfl, rfl, by decide +kernel, rfl, by decide +kernel, by decide +kernel⟩
def p_printed : R.Cell → Prop := fun c => c.b.natAbs < 2 ^ 250 ∧ c.c.length ≤ 1000000
set_option maxHeartbeats 4000000 in
theorem ok_printed (e : Env K mg) : FnAt P w K mg "printed" 4 ["cell"] (Sp1 K p_printed (R.printed)) := by
  refine fn1 (e.defs 26 29 "printed" rfl) sc29 rfl (fun _ _ _ _ _ _ us hu => match us, hu with | [_], _ => rfl) fun base f cell hp cdv A outer s H E hr => ⟨_,
    (pss_cons (ps_asg (pv 0) (pg_tup rfl (pgs_cons (pg_name (i := 1) sc29.nd rfl (by first | exact .inl rfl | exact .inr rfl)) (pgs_cons (pg_name (i := 2) sc29.nd rfl (by first | exact .inl rfl | exact .inr rfl)) (pgs_cons (pg_name (i := 3) sc29.nd rfl (by first | exact .inl rfl | exact .inr rfl)) pgs_nil)))))
      (pss_cons (ps_if (pt_cmpR op_eq (pv 1) pe_int (nomark _)) (pss_one (ps_ret (pe_fn (ok_decimal e) (hr.mono (by decide)) (by rfl) (pa_cons (pv 2) pa_nil) pass0))) pss_nil)
      (pss_cons (ps_if (pt_val (pe_fn (ok_is_plain e) (hr.mono (by decide)) (by rfl) (pa_cons (pv 3) pa_nil) pass0)) (pss_one (ps_ret (pe_callTy call_list_of (by rfl) (e.free "list" (by decide)) (by decide +kernel) (pa_cons (pv 3) pa_nil)))) pss_nil)
      (pss_one (ps_ret (pe_fn (ok_quoted e) (hr.mono (by decide)) (by rfl) (pa_cons (pv 3) pa_nil) pass0)))))), fun F0 σ Q st q => ?_⟩
  have st : Ok K ⟨F0, H, F0⟩ F0 H σ [Vl cell, .any, .any, .any] := st
  obtain ⟨h1, h2⟩ := hp
  refine q_asgG st (st.at (st.c.v 0 rfl)) g_t3 fun F H σ st => ?_
  have st : Ok K _ F H σ [Vl cell, Vl cell.a, Vl cell.b, Vl cell.c] := st
  refine q_if st (et_test (ev_eq (st.h.v 1 rfl) ev_int)) (fun hb F H st => ?_) (fun hb F H st => ?_)
  · refine s_retF st (ev_call1 (st.c.v 2 rfl) ?_) ?_ q
    · exact h1
    · exact (if_pos (of_decide_eq_true hb)).symm
  refine q_if st (et_B (ev_call1 (st.h.v 3 rfl) ?_)) (fun hc F H st => ?_) (fun hc F H st => ?_)
  · exact h2
  · exact s_retF st (en_list (st.c.v 3 rfl)).ev ((if_neg (of_decide_eq_false hb)).trans (if_pos hc)).symm q
  · refine s_retF st (ev_call1 (st.c.v 3 rfl) ?_) ?_ q
    · exact h2
    · exact ((if_neg (of_decide_eq_false hb)).trans (if_neg (by rw [hc]; decide))).symm
end
end Wk
end
section
set_option Elab.async false
set_option linter.all false
set_option maxRecDepth 100000
set_option maxHeartbeats 4000000
/-! The walk, printed by wip/g/gen.py. -/
namespace Wk
open PySem PySem.Spec PyProof.Rows L2 Ty
open Rep (rep)
section
variable {w : World} {K : Fg} {mg : Str → Option Value}
/-! ### scaled -/
abbrev st31 : Stmt := top 31
abbrev N31 : List Str := ["number", "low", "high", "steps"]
theorem sc31 : FnScope N31 ["number", "low", "high", "steps"] (defScope st31) := ⟨rfl, rfl, rfl, by decide +kernel, rfl, by decide +kernel, by decide +kernel⟩
def p_scaled : Int → Int → Int → Int → Prop := fun _ l h s => l ≤ h ∧ h - l < 1267650600228229401496703205376 ∧ -1000 ≤ s ∧ s ≤ 1000
set_option maxHeartbeats 4000000 in
theorem ok_scaled (e : Env K mg) : FnAt P w K mg "scaled" 1 ["number", "low", "high", "steps"] (Sp4 K p_scaled (R.scaled)) := by
  refine fn4 (e.defs 27 31 "scaled" rfl) sc31 rfl (fun _ _ _ _ _ _ us hu => match us, hu with | [_, _, _, _], _ => rfl) fun base f number low high steps hp cdv A outer s H E hr => ⟨_,
    (pss_cons (ps_if (pt_cmpR op_eq (pv 2) (pv 1) (nomark _)) (pss_one (ps_ret pe_int)) pss_nil)
      (pss_one (ps_ret (pe_op op_fdivW (pe_op op_mul (pe_op op_sub (pv 0) (pv 1)) (pe_op op_sub (pv 3) pe_int)) (pe_op op_sub (pv 2) (pv 1)))))), fun F0 σ Q st q => ?_⟩
  have st : Ok K ⟨F0, H, F0⟩ F0 H σ [Vl number, Vl low, Vl high, Vl steps] := st
  obtain ⟨h1, h2, h3, h4⟩ := hp
  refine q_if st (et_test (ev_eq (st.h.v 2 rfl) (st.h.v 1 rfl))) (fun hb F H st => ?_) (fun hb F H st => ?_)
  · exact s_retF st ev_int (if_pos (of_decide_eq_true hb)).symm q
  · have hb := of_decide_eq_false hb
    refine s_retF st (ev_fdiv (ev_mul (ev_sub (st.c.v 0 rfl) (st.c.v 1 rfl)) (ev_sub (st.c.v 3 rfl) ev_int) ?_) (ev_sub (st.c.v 2 rfl) (st.c.v 1 rfl)) ?_) (if_neg hb).symm q
    · exact cmul_r (by omega)
    · exact cdiv_of (by omega) (by omega)
/-! ### counted -/
abbrev st32 : Stmt := top 32
abbrev N32 : List Str := ["height", "grid", "xs", "ys", "counts", "x", "y", "column", "row", "place"]
theorem sc32 : FnScope N32 ["height", "grid", "xs", "ys"] (defScope st32) := ⟨rfl, rfl, rfl, by decide +kernel, rfl, by decide +kernel, by decide +kernel⟩
def p_counted : Int → Int → (List Int) → (List Int) → Prop := fun h g xs ys => 1 ≤ h ∧ h ≤ 1000 ∧ 1 ≤ g ∧ g ≤ 1000 ∧ R.small xs ∧ R.small ys
set_option maxHeartbeats 4000000 in
theorem ok_counted (e : Env K mg) : FnAt P w K mg "counted" 2 ["height", "grid", "xs", "ys"] (Sp4 K p_counted (R.counted)) := by
  refine fn4 (e.defs 28 32 "counted" rfl) sc32 rfl (fun _ _ _ _ _ _ us hu => match us, hu with | [_, _, _, _], _ => rfl) fun base f height grid xs ys hp cdv A outer s H E hr => ⟨_,
    (pss_cons (ps_set (i := 4) sc32.nd rfl (by first | exact .inl rfl | exact .inr rfl) (pe_fn (ok_repeated e) (hr.mono (by decide)) (by rfl) (pa_cons pe_int (pa_cons (pe_op op_mul (pv 0) (pv 1)) pa_nil)) pass0))
      (pss_cons (ps_for PassesOwn.never rfl (pi_zip (by rfl) (e.free "zip" (by decide)) (pa_cons (pv 2) (pa_cons (pv 3) pa_nil))) (pg_tup rfl (pgs_cons (pg_name (i := 5) sc32.nd rfl (by first | exact .inl rfl | exact .inr rfl)) (pgs_cons (pg_name (i := 6) sc32.nd rfl (by first | exact .inl rfl | exact .inr rfl)) pgs_nil))) (pss_cons (ps_set (i := 7) sc32.nd rfl (by first | exact .inl rfl | exact .inr rfl) (pe_fn (ok_scaled e) (hr.mono (by decide)) (by rfl) (pa_cons (pv 5) (pa_cons (pe_callB (cr_min rfl) (by rfl) (e.free "min" (by decide)) (by decide +kernel) (pa_cons (pv 2) pa_nil)) (pa_cons (pe_callB (cr_max rfl) (by rfl) (e.free "max" (by decide)) (by decide +kernel) (pa_cons (pv 2) pa_nil)) (pa_cons (pv 1) pa_nil)))) pass0))
      (pss_cons (ps_set (i := 8) sc32.nd rfl (by first | exact .inl rfl | exact .inr rfl) (pe_fn (ok_scaled e) (hr.mono (by decide)) (by rfl) (pa_cons (pv 6) (pa_cons (pe_callB (cr_min rfl) (by rfl) (e.free "min" (by decide)) (by decide +kernel) (pa_cons (pv 3) pa_nil)) (pa_cons (pe_callB (cr_max rfl) (by rfl) (e.free "max" (by decide)) (by decide +kernel) (pa_cons (pv 3) pa_nil)) (pa_cons (pv 0) pa_nil)))) pass0))
      (pss_cons (ps_set (i := 9) sc32.nd rfl (by first | exact .inl rfl | exact .inr rfl) (pe_op op_add (pe_op op_mul (pv 8) (pv 1)) (pv 7)))
      (pss_one (ps_asg (pe_op op_add (pe_ix (ixl_of (K := K) rfl) (pv 4) (pv 9) (fun _ _ => rfl)) pe_int) (pg_sub (pv 4) (pv 9) set_list)))))))
      (pss_one (ps_ret (pv 4))))), fun F0 σ Q st q => ?_⟩
  have st : Ok K ⟨F0, H, F0⟩ F0 H σ [Vl height, Vl grid, Vl xs, Vl ys, .any, .any, .any, .any, .any, .any] := st
  obtain ⟨h1, h2, g1, g2, sx, sy⟩ := hp
  refine q_newM st (en_call2 ev_int (ev_mul (st.c.v 0 rfl) (st.c.v 1 rfl) ?_) ?_) fun pc F H σ st => ?_
  · exact cmul_r (by omega)
  · have h3 : height * grid ≤ 1000 * 1000 := Int.mul_le_mul h2 g2 (by omega) (by decide)
    have h4 : 0 ≤ height * grid := Int.mul_nonneg (by omega) (by omega)
    constructor <;> omega
  refine q_for st (ei_zip (st.c.v 2 rfl) (st.c.v 3 rfl)) (fun y => g_pair) (fun i Γ => ∃ pc s t u v z, Γ = [Vl height, Vl grid, Vl xs, Vl ys, Mu pc (((xs.zip ys).take i).foldl (R.countStep height grid xs ys) (R.repeated 0 (height * grid))), s, t, u, v, z]) ⟨pc, _, _, _, _, _, rfl⟩ ?_ ?_
  · rintro G i ⟨x, y⟩ F H σ Γ hb ⟨pc, s, t, u, v, z, rfl⟩ st
    have lenC : (((xs.zip ys).take i).foldl (R.countStep height grid xs ys) (R.repeated 0 (height * grid))).length = (height * grid).toNat := by
      rw [R.countFold_len]
      exact List.length_replicate
    have e1 : ((xs.zip ys).take (i + 1)).foldl (R.countStep height grid xs ys) (R.repeated 0 (height * grid)) = R.countStep height grid xs ys (((xs.zip ys).take i).foldl (R.countStep height grid xs ys) (R.repeated 0 (height * grid))) (x, y) := by
      rw [List.take_add_one, hb, List.foldl_append]
      rfl
    rw [e1]
    generalize ((xs.zip ys).take i).foldl (R.countStep height grid xs ys) (R.repeated 0 (height * grid)) = cs at lenC st
    have st : Ok K _ F H σ [Vl height, Vl grid, Vl xs, Vl ys, Mu pc cs, Vl x, Vl y, u, v, z] := st
    have hm := List.mem_of_getElem? hb
    have hx : x ∈ xs := (List.of_mem_zip hm).1
    have hy : y ∈ ys := (List.of_mem_zip hm).2
    have nx : xs ≠ [] := fun e => by rw [e] at hx; cases hx
    have ny : ys ≠ [] := fun e => by rw [e] at hy; cases hy
    obtain ⟨b1, b2⟩ := R.place_bounds (height := height) (grid := grid) h1 g1 hx hy
    refine q_asg st (st.at (ev_call4 (st.c.v 5 rfl) (ev_min (st.c.v 2 rfl) ?_) (ev_max (st.c.v 2 rfl) ?_) (st.c.v 1 rfl) ?_)) fun F H σ st => ?_
    · exact nx
    · exact nx
    · exact ⟨R.lmin_le_lmax nx, R.small_span sx nx, by omega, by omega⟩
    refine q_asg st (st.at (ev_call4 (st.c.v 6 rfl) (ev_min (st.c.v 3 rfl) ?_) (ev_max (st.c.v 3 rfl) ?_) (st.c.v 0 rfl) ?_)) fun F H σ st => ?_
    · exact ny
    · exact ny
    · exact ⟨R.lmin_le_lmax ny, R.small_span sy ny, by omega, by omega⟩
    refine q_asg st (st.at (ev_add (ev_mul (st.c.v 8 rfl) (st.c.v 1 rfl) ?_) (st.c.v 7 rfl))) fun F H σ st => ?_
    · exact cmul_r (by omega)
    have st : Ok K _ F H σ [Vl height, Vl grid, Vl xs, Vl ys, Mu pc cs, Vl x, Vl y, Vl (R.scaled x (R.lmin xs) (R.lmax xs) grid), Vl (R.scaled y (R.lmin ys) (R.lmax ys) height), Vl (R.place height grid xs ys x y)] := st
    refine s_setI st rfl (st.atI (ev_add (ev_ix (x := (cs.getD (R.place height grid xs ys x y).toNat 0)) (st.h.v 4 rfl) (st.h.v 9 rfl) ?_) ev_int)) (fun F H st => st.at (st.c.v 9 rfl)) b1 ?_ fun F H st => ⟨_, _, st, pc, _, _, _, _, _, rfl⟩
    · exact atD b1 (by show _ < (cs.length : Int); omega)
    · omega
  · rintro F H σ Γ ⟨pc, s, t, u, v, z, rfl⟩ st
    rw [List.take_length] at st
    obtain ⟨F, st⟩ := st.freeze 4 rfl
    exact s_retF st (st.c.v 4 rfl) rfl q
/-! ### point_byte -/
abbrev st33 : Stmt := top 33
abbrev N33 : List Str := ["many"]
theorem sc33 : FnScope N33 ["many"] (defScope st33) := ⟨rfl, rfl, rfl, by decide +kernel, rfl, by decide +kernel, by decide +kernel⟩
def p_point_byte : Int → Prop := fun _ => True
set_option maxHeartbeats 4000000 in
theorem ok_point_byte (e : Env K mg) : FnAt P w K mg "point_byte" 1 ["many"] (Sp1 K p_point_byte (R.pointByte)) := by
  refine fn1 (e.defs 29 33 "point_byte" rfl) sc33 rfl (fun _ _ _ _ _ _ us hu => match us, hu with | [_], _ => rfl) fun base f many hp cdv A outer s H E hr => ⟨_,
    (pss_cons (ps_if (pt_cmpR op_eq (pv 0) pe_int (nomark _)) (pss_one (ps_ret pe_int)) pss_nil)
      (pss_cons (ps_if (pt_cmpR op_eq (pv 0) pe_int (nomark _)) (pss_one (ps_ret pe_int)) pss_nil)
      (pss_cons (ps_if (pt_cmpR op_le (pv 0) pe_int (nomark _)) (pss_one (ps_ret (pe_op op_add pe_int (pv 0)))) pss_nil)
      (pss_one (ps_ret pe_int))))), fun F0 σ Q st q => ?_⟩
  have st : Ok K ⟨F0, H, F0⟩ F0 H σ [Vl many] := st
  refine q_if st (et_test (ev_eq (st.h.v 0 rfl) ev_int)) (fun h1 F H st => ?_) (fun h1 F H st => ?_)
  · exact s_retF st ev_int (if_pos (of_decide_eq_true h1)).symm q
  refine q_if st (et_test (ev_eq (st.h.v 0 rfl) ev_int)) (fun h2 F H st => ?_) (fun h2 F H st => ?_)
  · exact s_retF st ev_int ((if_neg (of_decide_eq_false h1)).trans (if_pos (of_decide_eq_true h2))).symm q
  refine q_if st (et_test (ev_le (st.h.v 0 rfl) ev_int)) (fun h3 F H st => ?_) (fun h3 F H st => ?_)
  · exact s_retF st (ev_add ev_int (st.c.v 0 rfl)) ((if_neg (of_decide_eq_false h1)).trans ((if_neg (of_decide_eq_false h2)).trans (if_pos (of_decide_eq_true h3)))).symm q
  · exact s_retF st ev_int ((if_neg (of_decide_eq_false h1)).trans ((if_neg (of_decide_eq_false h2)).trans (if_neg (of_decide_eq_false h3)))).symm q
/-! ### row_label -/
abbrev st34 : Stmt := top 34
abbrev N34 : List Str := ["row", "height", "low", "high"]
theorem sc34 : FnScope N34 ["row", "height", "low", "high"] (defScope st34) := ⟨rfl, rfl, rfl, by decide +kernel, rfl, by decide +kernel, by decide +kernel⟩
def p_row_label : Int → Int → Int → Int → Prop := fun _ _ l h => l.natAbs < 2 ^ 250 ∧ h.natAbs < 2 ^ 250
set_option maxHeartbeats 4000000 in
theorem ok_row_label (e : Env K mg) : FnAt P w K mg "row_label" 3 ["row", "height", "low", "high"] (Sp4 K p_row_label (R.rowLabel)) := by
  refine fn4 (e.defs 30 34 "row_label" rfl) sc34 rfl (fun _ _ _ _ _ _ us hu => match us, hu with | [_, _, _, _], _ => rfl) fun base f row height low high hp cdv A outer s H E hr => ⟨_,
    (pss_cons (ps_if (pt_cmpR op_eq (pv 0) (pe_op op_sub (pv 1) pe_int) (nomark _)) (pss_one (ps_ret (pe_fn (ok_decimal e) (hr.mono (by decide)) (by rfl) (pa_cons (pv 3) pa_nil) pass0))) pss_nil)
      (pss_cons (ps_if (pt_cmpR op_eq (pv 0) pe_int (nomark _)) (pss_one (ps_ret (pe_fn (ok_decimal e) (hr.mono (by decide)) (by rfl) (pa_cons (pv 2) pa_nil) pass0))) pss_nil)
      (pss_one (ps_ret (pe_lst pa_nil))))), fun F0 σ Q st q => ?_⟩
  have st : Ok K ⟨F0, H, F0⟩ F0 H σ [Vl row, Vl height, Vl low, Vl high] := st
  obtain ⟨p1, p2⟩ := hp
  refine q_if st (et_test (ev_eq (st.h.v 0 rfl) (ev_sub (st.h.v 1 rfl) ev_int))) (fun h1 F H st => ?_) (fun h1 F H st => ?_)
  · refine s_retF st (ev_call1 (st.c.v 3 rfl) ?_) (if_pos (of_decide_eq_true h1)).symm q
    exact p2
  refine q_if st (et_test (ev_eq (st.h.v 0 rfl) ev_int)) (fun h2 F H st => ?_) (fun h2 F H st => ?_)
  · refine s_retF st (ev_call1 (st.c.v 2 rfl) ?_) ((if_neg (of_decide_eq_false h1)).trans (if_pos (of_decide_eq_true h2))).symm q
    exact p1
  · exact s_retF st en_nil.ev ((if_neg (of_decide_eq_false h1)).trans (if_neg (of_decide_eq_false h2))).symm q
/-! ### plot_rows -/
abbrev st35 : Stmt := top 35
abbrev N35 : List Str := ["height", "grid", "label", "xs", "ys", "counts", "lines", "row", "lead", "places", "many"]
theorem sc35 : FnScope N35 ["height", "grid", "label", "xs", "ys"] (defScope st35) := ⟨rfl, rfl, rfl, by decide +kernel, rfl, by decide +kernel, by decide +kernel⟩
def p_plot_rows : Int → Int → Int → (List Int) → (List Int) → Prop := fun h g l xs ys => 1 ≤ h ∧ h ≤ 1000 ∧ 1 ≤ g ∧ g ≤ 1000 ∧ 0 ≤ l ∧ l ≤ 1000 ∧ R.small xs ∧ R.small ys ∧ ys ≠ []
set_option maxHeartbeats 4000000 in
theorem ok_plot_rows (e : Env K mg) : FnAt P w K mg "plot_rows" 4 ["height", "grid", "label", "xs", "ys"] (Sp5 K p_plot_rows (R.plotRows)) := by
  refine fn5 (e.defs 31 35 "plot_rows" rfl) sc35 rfl (fun _ _ _ _ _ _ us hu => match us, hu with | [_, _, _, _, _], _ => rfl) fun base f height grid label xs ys hp cdv A outer s H E hr => ⟨_,
    (pss_cons (ps_set (i := 5) sc35.nd rfl (by first | exact .inl rfl | exact .inr rfl) (pe_fn (ok_counted e) (hr.mono (by decide)) (by rfl) (pa_cons (pv 0) (pa_cons (pv 1) (pa_cons (pv 3) (pa_cons (pv 4) pa_nil)))) pass0))
      (pss_cons (ps_set (i := 6) sc35.nd rfl (by first | exact .inl rfl | exact .inr rfl) (pe_lst pa_nil))
      (pss_cons (ps_for PassesOwn.never rfl (pi_range3 (by rfl) (e.free "range" (by decide)) (pa_cons (pe_op op_sub (pv 0) pe_int) (pa_cons (pe_un un_neg pe_int) (pa_cons (pe_un un_neg pe_int) pa_nil)))) (pg_name (i := 7) sc35.nd rfl (by first | exact .inl rfl | exact .inr rfl)) (pss_cons (ps_set (i := 8) sc35.nd rfl (by first | exact .inl rfl | exact .inr rfl) (pe_fn (ok_filled_before e) (hr.mono (by decide)) (by rfl) (pa_cons (pe_fn (ok_row_label e) (hr.mono (by decide)) (by rfl) (pa_cons (pv 7) (pa_cons (pv 0) (pa_cons (pe_callB (cr_min rfl) (by rfl) (e.free "min" (by decide)) (by decide +kernel) (pa_cons (pv 4) pa_nil)) (pa_cons (pe_callB (cr_max rfl) (by rfl) (e.free "max" (by decide)) (by decide +kernel) (pa_cons (pv 4) pa_nil)) pa_nil)))) pass0) (pa_cons (pv 2) pa_nil)) pass0))
      (pss_cons (ps_setLc (i := 9) (own := [("many", 10)]) (g := gName 10) rfl sc35.nd rfl rfl (sw_true rfl rfl rfl (by decide +kernel)) (pi_list (pe_slice (sll_of (K := K) rfl) (pv 5) (po_some (pe_op op_mul (pv 7) (pv 1))) (po_some (pe_op op_mul (pe_op op_add (pv 7) pe_int) (pv 1))))) (blkOk_by (own := [("many", 10)]) (N := N35) (sc := defScope st35) (by decide +kernel)) (fun _ _ _ _ _ => (pg_name (i := 10) sc35.nd rfl (by first | exact .inl rfl | exact .inr rfl))) (fun _ _ _ _ _ => pts_nil) (fun _ _ _ _ _ => (pe_fn (ok_point_byte e) (hr.mono (by decide)) (by rfl) (pa_cons (pv 10) pa_nil) pass0)))
      (pss_one (ps_expr (pe_bm PySem.F.plainAttrs_list PySem.F.slot_list_append PySem.F.type_list_append mt_append (pv 6) (pa_cons (pe_fn (ok_without_last_spaces e) (hr.mono (by decide)) (by rfl) (pa_cons (pe_op op_cat (pe_op op_cat (pv 8) (pe_lst (pa_cons pe_int pa_nil))) (pv 9)) pa_nil) pass0) pa_nil)))))))
      (pss_one (ps_ret (pv 6)))))), fun F0 σ Q st q => ?_⟩
  have st : Ok K ⟨F0, H, F0⟩ F0 H σ [Vl height, Vl grid, Vl label, Vl xs, Vl ys, .any, .any, .any, .any, .any, .any] := st
  obtain ⟨h1, h2, g1, g2, l1, l2, sx, sy, ny⟩ := hp
  refine q_asg st (st.at (ev_call4 (st.c.v 0 rfl) (st.c.v 1 rfl) (st.c.v 3 rfl) (st.c.v 4 rfl) ?_)) fun F H σ st => ?_
  · exact ⟨h1, h2, g1, g2, sx, sy⟩
  refine q_newM st (en_nil (α := (List Int))) fun pl F H σ st => ?_
  have clen : (R.counted height grid xs ys).length = (height * grid).toNat := R.counted_len ..
  have bsm := R.small_mem sy (R.lmin_mem ny)
  have bbg := R.small_mem sy (R.lmax_mem ny)
  refine q_for st (ei_rng3 (k := (height.toNat)) (ev_sub (st.c.v 0 rfl) ev_int) (ev_neg ev_int) (ev_neg ev_int) ?_) (fun y => g_name) (fun i Γ => ∃ pl s t u, Γ = [Vl height, Vl grid, Vl label, Vl xs, Vl ys, Vl (R.counted height grid xs ys), Mu pl ((List.range i).map fun (k : Nat) => R.plotRow height grid label ys (R.counted height grid xs ys) (height - 1 - k)), s, t, u, .any]) ⟨pl, _, _, _, rfl⟩ ?_ ?_
  · exact rg_down h1 h2
  · rintro G i row F H σ Γ hb ⟨pl, s, t, u, rfl⟩ st
    obtain ⟨hi, rfl⟩ : i < height.toNat ∧ height - 1 - (i : Int) = row := by
      obtain ⟨h3, h4⟩ := List.getElem?_eq_some_iff.mp hb
      rw [List.length_map, List.length_range] at h3
      rw [List.getElem_map, List.getElem_range] at h4
      refine ⟨h3, ?_⟩
      rw [← h4]
      omega
    have st : Ok K _ F H σ [Vl height, Vl grid, Vl label, Vl xs, Vl ys, Vl (R.counted height grid xs ys), Mu pl ((List.range i).map fun (k : Nat) => R.plotRow height grid label ys (R.counted height grid xs ys) (height - 1 - k)), Vl (height - 1 - (i : Int)), t, u, .any] := st
    have ll := R.rowLabel_len (height - 1 - (i : Int)) height (R.lmin ys) (R.lmax ys) bsm bbg
    have lf := R.filledBefore_len (R.rowLabel (height - 1 - (i : Int)) height (R.lmin ys) (R.lmax ys)) label
    refine q_asg st (st.at (ev_call2 (ev_call4 (st.c.v 7 rfl) (st.c.v 0 rfl) (ev_min (st.c.v 4 rfl) ?_) (ev_max (st.c.v 4 rfl) ?_) ?_) (st.c.v 2 rfl) ?_)) fun F H σ st => ?_
    · exact ny
    · exact ny
    · exact ⟨bsm, bbg⟩
    · exact ⟨by omega, by omega, by omega⟩
    have hmul : 0 ≤ (height - 1 - (i : Int)) * grid := Int.mul_nonneg (by omega) (by omega)
    have hmul2 : 0 ≤ (height - 1 - (i : Int) + 1) * grid := Int.mul_nonneg (by omega) (by omega)
    have hcut : cut (R.counted height grid xs ys) (some ((height - 1 - (i : Int)) * grid)) (some ((height - 1 - (i : Int) + 1) * grid)) = ((R.counted height grid xs ys).drop ((height - 1 - (i : Int)) * grid).toNat).take (((height - 1 - (i : Int) + 1) * grid).toNat - ((height - 1 - (i : Int)) * grid).toNat) := cut_mid hmul hmul2
    have hcl : (height * grid).toNat ≤ 1000000 := by
      have h3 : height * grid ≤ 1000 * 1000 := Int.mul_le_mul h2 g2 (by omega) (by decide)
      omega
    refine q_asg st (st.at (en_map st.c (ei_list (en_cut (st.c.v 5 rfl) (eo_some (ev_mul (st.c.v 7 rfl) (st.c.v 1 rfl) ?_)) (eo_some (ev_mul (ev_add (st.c.v 7 rfl) ev_int) (st.c.v 1 rfl) ?_))).ev) ?_ (fun y F1 σ1 hy c => (ev_call1 (c.v 10 rfl) ?_))).ev) fun F H σ st => ?_
    · exact cmul_r (by omega)
    · exact cmul_r (by omega)
    · rw [hcut, List.length_take, List.length_drop]
      omega
    · trivial
    rw [hcut] at st
    refine s_app st rfl (st.at (ev_call1 (en_cat (en_cat (st.c.v 8 rfl) (en_one ev_int).ev ?_).ev (st.c.v 9 rfl) ?_).ev ?_)) ?_ fun F H st => ⟨_, _, st, ?_⟩
    · rw [List.length_singleton]
      omega
    · rw [List.length_append, List.length_singleton, List.length_map, List.length_take, List.length_drop]
      omega
    · show (_ ++ _ ++ _ : List Int).length ≤ 1000000
      rw [List.length_append, List.length_append, List.length_singleton, List.length_map, List.length_take, List.length_drop]
      have hmg : (height - 1 - (i : Int) + 1) * grid = (height - 1 - (i : Int)) * grid + grid := by rw [Int.add_mul, Int.one_mul]
      omega
    · rw [List.length_map, List.length_range]
      omega
    · rw [List.range_succ, List.map_append]
      exact ⟨pl, _, _, _, rfl⟩
  · rintro F H σ Γ ⟨pl, s, t, u, rfl⟩ st
    rw [List.length_map, List.length_range] at st
    obtain ⟨F, st⟩ := st.freeze 6 rfl
    exact s_retF st (st.c.v 6 rfl) rfl q
/-! ### scale_lines -/
abbrev st36 : Stmt := top 36
abbrev N36 : List Str := ["grid", "label", "low", "high", "width", "lead", "left", "right"]
theorem sc36 : FnScope N36 ["grid", "label", "low", "high", "width"] (defScope st36) := ⟨rfl, rfl, rfl, by decide +kernel, rfl, by decide +kernel, by decide +kernel⟩
def p_scale_lines : Int → Int → Int → Int → Int → Prop := fun g l lo hi w => 1 ≤ g ∧ g ≤ 1000 ∧ 0 ≤ l ∧ l ≤ 1000 ∧ lo.natAbs < 2 ^ 250 ∧ hi.natAbs < 2 ^ 250 ∧ 1 ≤ w ∧ w ≤ 1000
set_option maxHeartbeats 4000000 in
theorem ok_scale_lines (e : Env K mg) : FnAt P w K mg "scale_lines" 3 ["grid", "label", "low", "high", "width"] (Sp5 K p_scale_lines (R.scaleLines)) := by
  refine fn5 (e.defs 32 36 "scale_lines" rfl) sc36 rfl (fun _ _ _ _ _ _ us hu => match us, hu with | [_, _, _, _, _], _ => rfl) fun base f grid label low high width hp cdv A outer s H E hr => ⟨_,
    (pss_cons (ps_set (i := 5) sc36.nd rfl (by first | exact .inl rfl | exact .inr rfl) (pe_fn (ok_repeated e) (hr.mono (by decide)) (by rfl) (pa_cons pe_int (pa_cons (pe_op op_add (pv 1) pe_int) pa_nil)) pass0))
      (pss_cons (ps_set (i := 6) sc36.nd rfl (by first | exact .inl rfl | exact .inr rfl) (pe_fn (ok_decimal e) (hr.mono (by decide)) (by rfl) (pa_cons (pv 2) pa_nil) pass0))
      (pss_cons (ps_set (i := 7) sc36.nd rfl (by first | exact .inl rfl | exact .inr rfl) (pe_fn (ok_decimal e) (hr.mono (by decide)) (by rfl) (pa_cons (pv 3) pa_nil) pass0))
      (pss_cons (ps_if (pt_cmpR op_lt (pe_op op_add (pe_callB (len_of (K := K) rfl) (by rfl) (e.free "len" (by decide)) boot_len (pa_cons (pv 6) pa_nil)) (pe_callB (len_of (K := K) rfl) (by rfl) (e.free "len" (by decide)) boot_len (pa_cons (pv 7) pa_nil))) (pv 0) (nomark _)) (pss_one (ps_ret (pe_lst (pa_cons (pe_op op_cat (pe_op op_cat (pv 5) (pv 6)) (pe_fn (ok_filled_before e) (hr.mono (by decide)) (by rfl) (pa_cons (pv 7) (pa_cons (pe_op op_sub (pv 0) (pe_callB (len_of (K := K) rfl) (by rfl) (e.free "len" (by decide)) boot_len (pa_cons (pv 6) pa_nil))) pa_nil)) pass0)) pa_nil)))) pss_nil)
      (pss_one (ps_ret (pe_lst (pa_cons (pe_fn (ok_shortened e) (hr.mono (by decide)) (by rfl) (pa_cons (pe_op op_cat (pv 5) (pv 6)) (pa_cons (pv 4) pa_nil)) pass0) (pa_cons (pe_fn (ok_shortened e) (hr.mono (by decide)) (by rfl) (pa_cons (pe_op op_cat (pv 5) (pv 7)) (pa_cons (pv 4) pa_nil)) pass0) pa_nil))))))))), fun F0 σ Q st q => ?_⟩
  have st : Ok K ⟨F0, H, F0⟩ F0 H σ [Vl grid, Vl label, Vl low, Vl high, Vl width, .any, .any, .any] := st
  obtain ⟨g1, g2, l1, l2, b1, b2, w1, w2⟩ := hp
  have d1 := R.decimal_len100 b1
  have d2 := R.decimal_len100 b2
  refine q_asg st (st.at (en_call2 ev_int (ev_add (st.c.v 1 rfl) ev_int) ?_).ev) fun F H σ st => ?_
  · constructor <;> omega
  refine q_asg st (st.at (ev_call1 (st.c.v 2 rfl) ?_)) fun F H σ st => ?_
  · exact b1
  refine q_asg st (st.at (ev_call1 (st.c.v 3 rfl) ?_)) fun F H σ st => ?_
  · exact b2
  have st : Ok K _ F H σ [Vl grid, Vl label, Vl low, Vl high, Vl width, Vl (R.repeated 32 (label + 1)), Vl (R.decimal low), Vl (R.decimal high)] := st
  have rl := R.repeated_len 32 (label + 1)
  have fl := R.filledBefore_len (R.decimal high) (grid - (R.decimal low).length)
  refine q_if st (et_test (ev_lt (ev_add (ev_len (st.h.v 6 rfl)) (ev_len (st.h.v 7 rfl))) (st.h.v 0 rfl))) (fun hb F H st => ?_) (fun hb F H st => ?_)
  · refine s_retF st (en_one (en_cat (en_cat (st.c.v 5 rfl) (st.c.v 6 rfl) ?_).ev (ev_call2 (st.c.v 7 rfl) (ev_sub (st.c.v 0 rfl) (ev_len (st.c.v 6 rfl))) ?_) ?_).ev).ev (if_pos (of_decide_eq_true hb)).symm q
    · omega
    · exact ⟨by omega, by omega, by omega⟩
    · rw [List.length_append]
      omega
  · refine s_retF st (en_two (ev_call2 (en_cat (st.c.v 5 rfl) (st.c.v 6 rfl) ?_).ev (st.c.v 4 rfl) ?_) (ev_call2 (en_cat (st.c.v 5 rfl) (st.c.v 7 rfl) ?_).ev (st.c.v 4 rfl) ?_)).ev (if_neg (of_decide_eq_false hb)).symm q
    · omega
    · refine ⟨?_, w1, by omega⟩
      show (_ ++ _ : List Int).length ≤ _
      rw [List.length_append]
      omega
    · omega
    · refine ⟨?_, w1, by omega⟩
      show (_ ++ _ : List Int).length ≤ _
      rw [List.length_append]
      omega
/-! ### plot_lines -/
abbrev st37 : Stmt := top 37
abbrev N37 : List Str := ["height", "coordinates", "width", "xs", "ys", "label", "grid", "base", "rows"]
theorem sc37 : FnScope N37 ["height", "coordinates", "width"] (defScope st37) := ⟨rfl, rfl, rfl, by decide +kernel, rfl, by decide +kernel, by decide +kernel⟩
def p_plot_lines : Int → (List Int) → Int → Prop := fun h co w => 1 ≤ h ∧ h ≤ 100 ∧ co.length ≤ 1000 ∧ co.length % 2 = 0 ∧ R.small co ∧ 1 ≤ w ∧ w ≤ 1000
set_option maxHeartbeats 4000000 in
theorem ok_plot_lines (e : Env K mg) : FnAt P w K mg "plot_lines" 5 ["height", "coordinates", "width"] (Sp3 K p_plot_lines (R.plotLines)) := by
  refine fn3 (e.defs 33 37 "plot_lines" rfl) sc37 rfl (fun _ _ _ _ _ _ us hu => match us, hu with | [_, _, _], _ => rfl) fun base f height coordinates width hp cdv A outer s H E hr => ⟨_,
    (pss_cons (ps_if (pt_cmpR op_eq (pe_callB (len_of (K := K) rfl) (by rfl) (e.free "len" (by decide)) boot_len (pa_cons (pv 1) pa_nil)) pe_int (nomark _)) (pss_one (ps_ret (pe_lst (pa_cons (pe_fn (ok_signs e) (hr.mono (by decide)) (by rfl) (pa_cons pe_str pa_nil) pass0) pa_nil)))) pss_nil)
      (pss_cons (ps_set (i := 3) sc37.nd rfl (by first | exact .inl rfl | exact .inr rfl) (pe_stride (pv 1) pe_int pe_int))
      (pss_cons (ps_set (i := 4) sc37.nd rfl (by first | exact .inl rfl | exact .inr rfl) (pe_stride (pv 1) pe_int pe_int))
      (pss_cons (ps_set (i := 5) sc37.nd rfl (by first | exact .inl rfl | exact .inr rfl) (pe_callB (call_max2 rfl) (by rfl) (e.free "max" (by decide)) (by decide +kernel) (pa_cons (pe_callB (len_of (K := K) rfl) (by rfl) (e.free "len" (by decide)) boot_len (pa_cons (pe_fn (ok_decimal e) (hr.mono (by decide)) (by rfl) (pa_cons (pe_callB (cr_min rfl) (by rfl) (e.free "min" (by decide)) (by decide +kernel) (pa_cons (pv 4) pa_nil)) pa_nil) pass0) pa_nil)) (pa_cons (pe_callB (len_of (K := K) rfl) (by rfl) (e.free "len" (by decide)) boot_len (pa_cons (pe_fn (ok_decimal e) (hr.mono (by decide)) (by rfl) (pa_cons (pe_callB (cr_max rfl) (by rfl) (e.free "max" (by decide)) (by decide +kernel) (pa_cons (pv 4) pa_nil)) pa_nil) pass0) pa_nil)) pa_nil))))
      (pss_cons (ps_set (i := 6) sc37.nd rfl (by first | exact .inl rfl | exact .inr rfl) (pe_op op_sub (pe_op op_sub (pv 2) (pv 5)) pe_int))
      (pss_cons (ps_if (pt_cmpR op_lt (pv 6) pe_int (nomark _)) (pss_one (ps_ret (pe_lst (pa_cons (pe_fn (ok_signs e) (hr.mono (by decide)) (by rfl) (pa_cons pe_str pa_nil) pass0) pa_nil)))) pss_nil)
      (pss_cons (ps_set (i := 7) sc37.nd rfl (by first | exact .inl rfl | exact .inr rfl) (pe_op op_cat (pe_op op_cat (pe_fn (ok_repeated e) (hr.mono (by decide)) (by rfl) (pa_cons pe_int (pa_cons (pv 5) pa_nil)) pass0) (pe_lst (pa_cons pe_int pa_nil))) (pe_fn (ok_repeated e) (hr.mono (by decide)) (by rfl) (pa_cons pe_int (pa_cons (pv 6) pa_nil)) pass0)))
      (pss_cons (ps_set (i := 8) sc37.nd rfl (by first | exact .inl rfl | exact .inr rfl) (pe_fn (ok_plot_rows e) (hr.mono (by decide)) (by rfl) (pa_cons (pv 0) (pa_cons (pv 6) (pa_cons (pv 5) (pa_cons (pv 3) (pa_cons (pv 4) pa_nil))))) pass0))
      (pss_one (ps_ret (pe_op op_cat (pe_op op_cat (pv 8) (pe_lst (pa_cons (pv 7) pa_nil))) (pe_fn (ok_scale_lines e) (hr.mono (by decide)) (by rfl) (pa_cons (pv 6) (pa_cons (pv 5) (pa_cons (pe_callB (cr_min rfl) (by rfl) (e.free "min" (by decide)) (by decide +kernel) (pa_cons (pv 3) pa_nil)) (pa_cons (pe_callB (cr_max rfl) (by rfl) (e.free "max" (by decide)) (by decide +kernel) (pa_cons (pv 3) pa_nil)) (pa_cons (pv 2) pa_nil))))) pass0)))))))))))), fun F0 σ Q st q => ?_⟩
  have st : Ok K ⟨F0, H, F0⟩ F0 H σ [Vl height, Vl coordinates, Vl width, .any, .any, .any, .any, .any, .any] := st
  obtain ⟨h1, h2, c1, c2, sc, w1, w2⟩ := hp
  refine q_if st (et_test (ev_eq (ev_len (st.h.v 1 rfl)) ev_int)) (fun hb F H st => ?_) (fun hb F H st => ?_)
  · refine s_retF st (en_one (ev_call1 ev_str ?_)).ev ?_ q
    · exact (by decide : (11 : Nat) ≤ 1000000)
    · unfold R.plotLines
      rw [if_pos (show coordinates.length = 0 by have := of_decide_eq_true hb; omega)]
      exact congrArg (fun l => [l]) (codesOf "(no points)")
  have hne : ¬ coordinates.length = 0 := by have := of_decide_eq_false hb; omega
  have nx : R.stride 0 2 coordinates ≠ [] := R.stride_ne (by decide) (by omega)
  have ny : R.stride 1 2 coordinates ≠ [] := R.stride_ne (by decide) (by omega)
  have sx : R.small (R.stride 0 2 coordinates) := R.small_stride sc
  have sy : R.small (R.stride 1 2 coordinates) := R.small_stride sc
  refine q_asg st (st.at (en_stride (st.c.v 1 rfl) ev_int ev_int ?_ ?_).ev) fun F H σ st => ?_
  · decide
  · decide
  refine q_asg st (st.at (en_stride (st.c.v 1 rfl) ev_int ev_int ?_ ?_).ev) fun F H σ st => ?_
  · decide
  · decide
  have st : Ok K _ F H σ [Vl height, Vl coordinates, Vl width, Vl (R.stride 0 2 coordinates), Vl (R.stride 1 2 coordinates), .any, .any, .any, .any] := st
  obtain ⟨pb1, pb2⟩ := R.plotLabel_bounds sy ny
  have eq0 : R.plotLines height coordinates width = if width - R.plotLabel (R.stride 1 2 coordinates) - 1 < 8 then [R.signs "(too narrow)"]
      else R.plotRows height (width - R.plotLabel (R.stride 1 2 coordinates) - 1) (R.plotLabel (R.stride 1 2 coordinates)) (R.stride 0 2 coordinates) (R.stride 1 2 coordinates) ++ [R.repeated 32 (R.plotLabel (R.stride 1 2 coordinates)) ++ [43] ++ R.repeated 45 (width - R.plotLabel (R.stride 1 2 coordinates) - 1)] ++
        R.scaleLines (width - R.plotLabel (R.stride 1 2 coordinates) - 1) (R.plotLabel (R.stride 1 2 coordinates)) (R.lmin (R.stride 0 2 coordinates)) (R.lmax (R.stride 0 2 coordinates)) width := if_neg hne
  generalize R.stride 0 2 coordinates = xs at st nx sx eq0
  generalize R.stride 1 2 coordinates = ys at st ny sy eq0 pb1 pb2
  refine q_asg st (st.at (ev_max2 (ev_len (ev_call1 (ev_min (st.c.v 4 rfl) ?_) ?_)) (ev_len (ev_call1 (ev_max (st.c.v 4 rfl) ?_) ?_)))) fun F H σ st => ?_
  · exact ny
  · exact R.small_mem sy (R.lmin_mem ny)
  · exact ny
  · exact R.small_mem sy (R.lmax_mem ny)
  have st : Ok K _ F H σ [Vl height, Vl coordinates, Vl width, Vl xs, Vl ys, Vl (R.plotLabel ys), .any, .any, .any] := st
  generalize R.plotLabel ys = label at st eq0 pb1 pb2
  refine q_asg st (st.at (ev_sub (ev_sub (st.c.v 2 rfl) (st.c.v 5 rfl)) ev_int)) fun F H σ st => ?_
  refine q_if st (et_test (ev_lt (st.h.v 6 rfl) ev_int)) (fun hb F H st => ?_) (fun hb F H st => ?_)
  · refine s_retF st (en_one (ev_call1 ev_str ?_)).ev ?_ q
    · exact (by decide : (12 : Nat) ≤ 1000000)
    · rw [eq0, if_pos (of_decide_eq_true hb)]
      exact congrArg (fun l => [l]) (codesOf "(too narrow)")
  have hg := of_decide_eq_false hb
  have st : Ok K _ F H σ [Vl height, Vl coordinates, Vl width, Vl xs, Vl ys, Vl label, Vl (width - label - 1), .any, .any] := st
  have r1 := R.repeated_len 32 label
  have r2 := R.repeated_len 45 (width - label - 1)
  refine q_asg st (st.at (en_cat (en_cat (en_call2 ev_int (st.c.v 5 rfl) ?_).ev (en_one ev_int).ev ?_).ev (en_call2 ev_int (st.c.v 6 rfl) ?_).ev ?_).ev) fun F H σ st => ?_
  · constructor <;> omega
  · rw [List.length_singleton]; omega
  · constructor <;> omega
  · rw [List.length_append, List.length_singleton]; omega
  refine q_asg st (st.at (ev_call5 (st.c.v 0 rfl) (st.c.v 6 rfl) (st.c.v 5 rfl) (st.c.v 3 rfl) (st.c.v 4 rfl) ?_)) fun F H σ st => ?_
  · exact ⟨h1, by omega, by omega, by omega, pb1, by omega, sx, sy, ny⟩
  have pl : (R.plotRows height (width - label - 1) label xs ys).length = height.toNat := by
    unfold R.plotRows
    rw [List.length_map, List.length_range]
  have sl : (R.scaleLines (width - label - 1) label (R.lmin xs) (R.lmax xs) width).length ≤ 2 := by
    unfold R.scaleLines
    split
    · exact (by decide : 1 ≤ 2)
    · exact Nat.le_refl 2
  refine s_retF st (en_cat (en_cat (st.c.v 8 rfl) (en_one (st.c.v 7 rfl)).ev ?_).ev (ev_call5 (st.c.v 6 rfl) (st.c.v 5 rfl) (ev_min (st.c.v 3 rfl) ?_) (ev_max (st.c.v 3 rfl) ?_) (st.c.v 2 rfl) ?_) ?_).ev ?_ q
  · rw [List.length_singleton]; omega
  · exact nx
  · exact nx
  · exact ⟨by omega, by omega, pb1, by omega, R.small_mem sx (R.lmin_mem nx), R.small_mem sx (R.lmax_mem nx), w1, w2⟩
  · rw [List.length_append, List.length_singleton]; omega
  · rw [eq0, if_neg hg]
/-! ### bar_line -/
abbrev st38 : Stmt := top 38
abbrev N38 : List Str := ["text", "number", "greatest", "sizes", "width", "wide", "room", "digits", "length", "name", "bar"]
theorem sc38 : FnScope N38 ["text", "number", "greatest", "sizes", "width"] (defScope st38) := ⟨rfl, rfl, rfl, by decide +kernel, rfl, by decide +kernel, by decide +kernel⟩
def p_bar_line : (List Int) → Int → Int → (R.T3 Int Int Int) → Int → Prop := fun t n g z w => t.length ≤ 1000 ∧ 0 ≤ n ∧ n ≤ g ∧ g < 1180591620717411303424 ∧ 1 ≤ z.a ∧ z.a ≤ 1000 ∧ 0 ≤ z.b ∧ z.b ≤ 1000 ∧ 0 ≤ z.c ∧ z.c ≤ 1000 ∧ 1 ≤ w ∧ w ≤ 1000
set_option maxHeartbeats 4000000 in
theorem ok_bar_line (e : Env K mg) : FnAt P w K mg "bar_line" 3 ["text", "number", "greatest", "sizes", "width"] (Sp5 K p_bar_line (R.barLine)) := by
  refine fn5 (e.defs 34 38 "bar_line" rfl) sc38 rfl (fun _ _ _ _ _ _ us hu => match us, hu with | [_, _, _, _, _], _ => rfl) fun base f text number greatest sizes width hp cdv A outer s H E hr => ⟨_,
    (pss_cons (ps_asg (pv 3) (pg_tup rfl (pgs_cons (pg_name (i := 5) sc38.nd rfl (by first | exact .inl rfl | exact .inr rfl)) (pgs_cons (pg_name (i := 6) sc38.nd rfl (by first | exact .inl rfl | exact .inr rfl)) (pgs_cons (pg_name (i := 7) sc38.nd rfl (by first | exact .inl rfl | exact .inr rfl)) pgs_nil)))))
      (pss_cons (ps_set (i := 8) sc38.nd rfl (by first | exact .inl rfl | exact .inr rfl) (pe_ifExp (pt_cmpR op_gt (pv 2) pe_int (nomark _)) (pe_op op_fdivW (pe_op op_mul (pv 1) (pv 6)) (pv 2)) pe_int))
      (pss_cons (ps_set (i := 9) sc38.nd rfl (by first | exact .inl rfl | exact .inr rfl) (pe_fn (ok_filled_behind e) (hr.mono (by decide)) (by rfl) (pa_cons (pe_fn (ok_shortened e) (hr.mono (by decide)) (by rfl) (pa_cons (pv 0) (pa_cons (pv 5) pa_nil)) pass0) (pa_cons (pv 5) pa_nil)) pass0))
      (pss_cons (ps_set (i := 10) sc38.nd rfl (by first | exact .inl rfl | exact .inr rfl) (pe_fn (ok_filled_behind e) (hr.mono (by decide)) (by rfl) (pa_cons (pe_fn (ok_repeated e) (hr.mono (by decide)) (by rfl) (pa_cons pe_int (pa_cons (pv 8) pa_nil)) pass0) (pa_cons (pv 6) pa_nil)) pass0))
      (pss_one (ps_ret (pe_fn (ok_shortened e) (hr.mono (by decide)) (by rfl) (pa_cons (pe_op op_cat (pe_op op_cat (pe_op op_cat (pe_op op_cat (pv 9) (pe_lst (pa_cons pe_int pa_nil))) (pv 10)) (pe_lst (pa_cons pe_int pa_nil))) (pe_fn (ok_filled_before e) (hr.mono (by decide)) (by rfl) (pa_cons (pe_fn (ok_decimal e) (hr.mono (by decide)) (by rfl) (pa_cons (pv 1) pa_nil) pass0) (pa_cons (pv 7) pa_nil)) pass0)) (pa_cons (pv 4) pa_nil)) pass0))))))), fun F0 σ Q st q => ?_⟩
  have st : Ok K ⟨F0, H, F0⟩ F0 H σ [Vl text, Vl number, Vl greatest, Vl sizes, Vl width, .any, .any, .any, .any, .any, .any] := st
  obtain ⟨t1, n0, n1, g1, a1, a2, b1, b2, c1, c2, w1, w2⟩ := hp
  refine q_asgG st (st.at (st.c.v 3 rfl)) g_t3 fun F H σ st => ?_
  have st : Ok K _ F H σ [Vl text, Vl number, Vl greatest, Vl sizes, Vl width, Vl sizes.a, Vl sizes.b, Vl sizes.c, .any, .any, .any] := st
  have hbl := R.barLength_le n0 n1 b1
  have ebl : (if decide (0 < greatest) = true then number * sizes.b / greatest else 0) = R.barLength number sizes.b greatest := by
    unfold R.barLength
    by_cases h : 0 < greatest
    · rw [if_pos (decide_eq_true h), if_pos h]
    · rw [if_neg (by rw [decide_eq_false h]; decide), if_neg h]
  refine q_asg st (st.at (ev_ite (et_test (ev_gt (st.c.v 2 rfl) ev_int)) (fun hs => (ev_fdiv (ev_mul (st.c.v 1 rfl) (st.c.v 6 rfl) ?_) (st.c.v 2 rfl) ?_)) (fun hs => ev_int))) fun F H σ st => ?_
  · exact cmul_r (by omega)
  · have h := of_decide_eq_true hs
    exact cdiv_of h (by omega)
  rw [ebl] at st
  have l1 := R.shortened_len text sizes.a a1
  have l2 := R.filledBehind_len (R.shortened text sizes.a) sizes.a
  have l3 := R.repeated_len 61 (R.barLength number sizes.b greatest)
  have l4 := R.filledBehind_len (R.repeated 61 (R.barLength number sizes.b greatest)) sizes.b
  have l5 := R.decimal_len100 (n := number) (Nat.lt_of_lt_of_le (show number.natAbs < 1180591620717411303424 by omega) (by decide))
  have l6 := R.filledBefore_len (R.decimal number) sizes.c
  refine q_asg st (st.at (ev_call2 (ev_call2 (st.c.v 0 rfl) (st.c.v 5 rfl) ?_) (st.c.v 5 rfl) ?_)) fun F H σ st => ?_
  · exact ⟨by omega, a1, by omega⟩
  · exact ⟨by omega, by omega, by omega⟩
  refine q_asg st (st.at (ev_call2 (en_call2 ev_int (st.c.v 8 rfl) ?_).ev (st.c.v 6 rfl) ?_)) fun F H σ st => ?_
  · exact ⟨by omega, by omega⟩
  · exact ⟨by omega, by omega, by omega⟩
  have st : Ok K _ F H σ [Vl text, Vl number, Vl greatest, Vl sizes, Vl width, Vl sizes.a, Vl sizes.b, Vl sizes.c, Vl (R.barLength number sizes.b greatest), Vl (R.filledBehind (R.shortened text sizes.a) sizes.a), Vl (R.filledBehind (R.repeated 61 (R.barLength number sizes.b greatest)) sizes.b)] := st
  refine s_retF st (ev_call2 (en_cat (en_cat (en_cat (en_cat (st.c.v 9 rfl) (en_one ev_int).ev ?_).ev (st.c.v 10 rfl) ?_).ev (en_one ev_int).ev ?_).ev (ev_call2 (ev_call1 (st.c.v 1 rfl) ?_) (st.c.v 7 rfl) ?_) ?_).ev (st.c.v 4 rfl) ?_) rfl q
  · rw [List.length_singleton]; omega
  · rw [List.length_append, List.length_singleton]; omega
  · rw [List.length_append, List.length_append, List.length_singleton]; omega
  · exact Nat.lt_of_lt_of_le (show number.natAbs < 1180591620717411303424 by omega) (by decide)
  · exact ⟨by omega, by omega, by omega⟩
  · rw [List.length_append, List.length_append, List.length_append, List.length_singleton]; omega
  · refine ⟨?_, w1, by omega⟩
    show (_ ++ _ ++ _ ++ _ ++ _ : List Int).length ≤ _
    rw [List.length_append, List.length_append, List.length_append, List.length_append, List.length_singleton]
    omega
/-! ### bar_lines -/
abbrev st39 : Stmt := top 39
abbrev N39 : List Str := ["cells", "width", "texts", "numbers", "wide", "digits", "room", "sizes", "lines", "text", "number", "cell"]
theorem sc39 : FnScope N39 ["cells", "width"] (defScope st39) := ⟨rfl, rfl, rfl, by decide +kernel, rfl, by decide +kernel, by decide +kernel⟩
def p_bar_lines : (List R.Cell) → Int → Prop := fun cs w => cs.length ≤ 1000 ∧ cs.length % 2 = 0 ∧ (∀ c ∈ cs, c.c.length ≤ 500 ∧ 0 ≤ c.b ∧ c.b < 1180591620717411303424) ∧ 1 ≤ w ∧ w ≤ 1000
set_option maxHeartbeats 4000000 in
theorem ok_bar_lines (e : Env K mg) : FnAt P w K mg "bar_lines" 4 ["cells", "width"] (Sp2 K p_bar_lines (R.barLines)) := by
  refine fn2 (e.defs 35 39 "bar_lines" rfl) sc39 rfl (fun _ _ _ _ _ _ us hu => match us, hu with | [_, _], _ => rfl) fun base f cells width hp cdv A outer s H E hr => ⟨_,
    (pss_cons (ps_if (pt_cmpR op_eq (pe_callB (len_of (K := K) rfl) (by rfl) (e.free "len" (by decide)) boot_len (pa_cons (pv 0) pa_nil)) pe_int (nomark _)) (pss_one (ps_ret (pe_lst (pa_cons (pe_fn (ok_signs e) (hr.mono (by decide)) (by rfl) (pa_cons pe_str pa_nil) pass0) pa_nil)))) pss_nil)
      (pss_cons (ps_setLc (i := 2) (own := [("cell", 11)]) (g := gName 11) rfl sc39.nd rfl rfl (sw_true rfl rfl rfl (by decide +kernel)) (pi_list (pe_stride (pv 0) pe_int pe_int)) (blkOk_by (own := [("cell", 11)]) (N := N39) (sc := defScope st39) (by decide +kernel)) (fun _ _ _ _ _ => (pg_name (i := 11) sc39.nd rfl (by first | exact .inl rfl | exact .inr rfl))) (fun _ _ _ _ _ => pts_nil) (fun _ _ _ _ _ => (pe_fn (ok_single_line e) (hr.mono (by decide)) (by rfl) (pa_cons (pe_ix (ixt_of (K := K) rfl) (pv 11) pe_int (fun _ _ => rfl)) pa_nil) pass0)))
      (pss_cons (ps_setLc (i := 3) (own := [("cell", 11)]) (g := gName 11) rfl sc39.nd rfl rfl (sw_true rfl rfl rfl (by decide +kernel)) (pi_list (pe_stride (pv 0) pe_int pe_int)) (blkOk_by (own := [("cell", 11)]) (N := N39) (sc := defScope st39) (by decide +kernel)) (fun _ _ _ _ _ => (pg_name (i := 11) sc39.nd rfl (by first | exact .inl rfl | exact .inr rfl))) (fun _ _ _ _ _ => pts_nil) (fun _ _ _ _ _ => (pe_ix (ixt_of (K := K) rfl) (pv 11) pe_int (fun _ _ => rfl))))
      (pss_cons (ps_set (i := 4) sc39.nd rfl (by first | exact .inl rfl | exact .inr rfl) (pe_callB (call_min2 rfl) (by rfl) (e.free "min" (by decide)) (by decide +kernel) (pa_cons pe_int (pa_cons (pe_callB (call_max2 rfl) (by rfl) (e.free "max" (by decide)) (by decide +kernel) (pa_cons pe_int (pa_cons (pe_callB (cr_max rfl) (by rfl) (e.free "max" (by decide)) (by decide +kernel) (pa_cons (pe_lc (own := [("text", 9)]) (g := gName 9) rfl sc39.nd (pi_list (pv 2)) (blkOk_by (own := [("text", 9)]) (N := N39) (sc := defScope st39) (by decide +kernel)) (fun _ _ _ _ _ => (pg_name (i := 9) sc39.nd rfl (by first | exact .inl rfl | exact .inr rfl))) (fun _ _ _ _ _ => pts_nil) (fun _ _ _ _ _ => (pe_callB (len_of (K := K) rfl) (by rfl) (e.free "len" (by decide)) boot_len (pa_cons (pv 9) pa_nil)))) pa_nil)) pa_nil))) pa_nil))))
      (pss_cons (ps_set (i := 5) sc39.nd rfl (by first | exact .inl rfl | exact .inr rfl) (pe_callB (cr_max rfl) (by rfl) (e.free "max" (by decide)) (by decide +kernel) (pa_cons (pe_lc (own := [("number", 10)]) (g := gName 10) rfl sc39.nd (pi_list (pv 3)) (blkOk_by (own := [("number", 10)]) (N := N39) (sc := defScope st39) (by decide +kernel)) (fun _ _ _ _ _ => (pg_name (i := 10) sc39.nd rfl (by first | exact .inl rfl | exact .inr rfl))) (fun _ _ _ _ _ => pts_nil) (fun _ _ _ _ _ => (pe_callB (len_of (K := K) rfl) (by rfl) (e.free "len" (by decide)) boot_len (pa_cons (pe_fn (ok_decimal e) (hr.mono (by decide)) (by rfl) (pa_cons (pv 10) pa_nil) pass0) pa_nil)))) pa_nil)))
      (pss_cons (ps_set (i := 6) sc39.nd rfl (by first | exact .inl rfl | exact .inr rfl) (pe_callB (call_max2 rfl) (by rfl) (e.free "max" (by decide)) (by decide +kernel) (pa_cons pe_int (pa_cons (pe_op op_sub (pe_op op_sub (pe_op op_sub (pv 1) (pv 4)) (pv 5)) pe_int) pa_nil))))
      (pss_cons (ps_set (i := 7) sc39.nd rfl (by first | exact .inl rfl | exact .inr rfl) (pe_tup (pa_cons (pv 4) (pa_cons (pv 6) (pa_cons (pv 5) pa_nil)))))
      (pss_cons (ps_set (i := 8) sc39.nd rfl (by first | exact .inl rfl | exact .inr rfl) (pe_lst pa_nil))
      (pss_cons (ps_for PassesOwn.never rfl (pi_zip (by rfl) (e.free "zip" (by decide)) (pa_cons (pv 2) (pa_cons (pv 3) pa_nil))) (pg_tup rfl (pgs_cons (pg_name (i := 9) sc39.nd rfl (by first | exact .inl rfl | exact .inr rfl)) (pgs_cons (pg_name (i := 10) sc39.nd rfl (by first | exact .inl rfl | exact .inr rfl)) pgs_nil))) (pss_one (ps_expr (pe_bm PySem.F.plainAttrs_list PySem.F.slot_list_append PySem.F.type_list_append mt_append (pv 8) (pa_cons (pe_fn (ok_bar_line e) (hr.mono (by decide)) (by rfl) (pa_cons (pv 9) (pa_cons (pv 10) (pa_cons (pe_callB (cr_max rfl) (by rfl) (e.free "max" (by decide)) (by decide +kernel) (pa_cons (pv 3) pa_nil)) (pa_cons (pv 7) (pa_cons (pv 1) pa_nil))))) pass0) pa_nil)))))
      (pss_one (ps_ret (pv 8)))))))))))), fun F0 σ Q st q => ?_⟩
  have st : Ok K ⟨F0, H, F0⟩ F0 H σ [Vl cells, Vl width, .any, .any, .any, .any, .any, .any, .any, .any, .any, .any] := st
  obtain ⟨k1, k2, hc, w1, w2⟩ := hp
  refine q_if st (et_test (ev_eq (ev_len (st.h.v 0 rfl)) ev_int)) (fun hb F H st => ?_) (fun hb F H st => ?_)
  · refine s_retF st (en_one (ev_call1 ev_str ?_)).ev ?_ q
    · exact (by decide : (9 : Nat) ≤ 1000000)
    · unfold R.barLines
      rw [if_pos (show cells.length = 0 by have := of_decide_eq_true hb; omega)]
      exact congrArg (fun l => [l]) (codesOf "(no bars)")
  have hne : ¬ cells.length = 0 := by have := of_decide_eq_false hb; omega
  have t1 := stride_len 0 2 (by decide) cells
  have t2 := stride_len 1 2 (by decide) cells
  refine q_asg st (st.at ((en_map st.c (ei_list (en_stride (st.c.v 0 rfl) ev_int ev_int ?_ ?_).ev) ?_ (fun y F1 σ1 hy c => (ev_call1 (ev_t3c (c.v 11 rfl) ev_int) ?_)))).ev) fun F H σ st => ?_
  · decide
  · decide
  · exact Nat.le_trans t1 (by omega)
  · have h := (hc y (R.stride_mem hy)).1
    show y.c.length ≤ 1000000
    omega
  refine q_asg st (st.at ((en_map st.c (ei_list (en_stride (st.c.v 0 rfl) ev_int ev_int ?_ ?_).ev) ?_ (fun y F1 σ1 hy c => (ev_t3b (c.v 11 rfl) ev_int)))).ev) fun F H σ st => ?_
  · decide
  · decide
  · exact Nat.le_trans t2 (by omega)
  have eq0 : R.barLines cells width = (((R.stride 0 2 cells).map fun c => R.singleLine c.c).zip ((R.stride 1 2 cells).map fun c => c.b)).map fun p => R.barLine p.1 p.2 (R.lmax ((R.stride 1 2 cells).map fun c => c.b))
      ⟨R.minI 12 (R.maxI 1 (R.lmax (((R.stride 0 2 cells).map fun c => R.singleLine c.c).map fun t => (t.length : Int)))), R.maxI 0 (width - R.minI 12 (R.maxI 1 (R.lmax (((R.stride 0 2 cells).map fun c => R.singleLine c.c).map fun t => (t.length : Int)))) - R.lmax (((R.stride 1 2 cells).map fun c => c.b).map fun n => ((R.decimal n).length : Int)) - 2),
        R.lmax (((R.stride 1 2 cells).map fun c => c.b).map fun n => ((R.decimal n).length : Int))⟩ width := if_neg hne
  have st : Ok K _ F H σ [Vl cells, Vl width, Vl ((R.stride 0 2 cells).map fun c => R.singleLine c.c), Vl ((R.stride 1 2 cells).map fun c => c.b), .any, .any, .any, .any, .any, .any, .any, .any] := st
  have lt : ∀ t ∈ (R.stride 0 2 cells).map fun c => R.singleLine c.c, t.length ≤ 500 := fun t ht => by
    obtain ⟨c, h3, rfl⟩ := List.mem_map.mp ht
    have h4 := (hc c (R.stride_mem h3)).1
    rw [R.singleLine_len]
    exact h4
  have ln : ∀ n ∈ (R.stride 1 2 cells).map fun c => c.b, 0 ≤ n ∧ n < 1180591620717411303424 := fun n hn => by
    obtain ⟨c, h3, rfl⟩ := List.mem_map.mp hn
    exact (hc c (R.stride_mem h3)).2
  have nt : ((R.stride 0 2 cells).map fun c => R.singleLine c.c) ≠ [] := fun e => R.stride_ne (l := cells) (a := 0) (k := 2) (by decide) (by omega) (List.map_eq_nil_iff.mp e)
  have nn : ((R.stride 1 2 cells).map fun c => c.b) ≠ [] := fun e => R.stride_ne (l := cells) (a := 1) (k := 2) (by decide) (by omega) (List.map_eq_nil_iff.mp e)
  have t3 : ((R.stride 0 2 cells).map fun c => R.singleLine c.c).length ≤ 1000 := by rw [List.length_map]; omega
  have t4 : ((R.stride 1 2 cells).map fun c => c.b).length ≤ 1000 := by rw [List.length_map]; omega
  rw [eq0] at q
  clear eq0
  generalize ((R.stride 0 2 cells).map fun c => R.singleLine c.c) = texts at st lt nt t3 q
  generalize ((R.stride 1 2 cells).map fun c => c.b) = numbers at st ln nn t4 q
  refine q_asg st (st.at (ev_min2 ev_int (ev_max2 ev_int (ev_max (en_map st.c (ei_list (st.c.v 2 rfl)) ?_ (fun y F1 σ1 hy c => (ev_len (c.v 9 rfl)))).ev ?_)))) fun F H σ st => ?_
  · omega
  · exact fun e => nt (List.map_eq_nil_iff.mp e)
  refine q_asg st (st.at (ev_max (en_map st.c (ei_list (st.c.v 3 rfl)) ?_ (fun y F1 σ1 hy c => (ev_len (ev_call1 (c.v 10 rfl) ?_)))).ev ?_)) fun F H σ st => ?_
  · omega
  · have h := ln y hy
    exact Nat.lt_of_lt_of_le (show y.natAbs < 1180591620717411303424 by omega) (by decide)
  · exact fun e => nn (List.map_eq_nil_iff.mp e)
  have dg : R.lmax (numbers.map fun n => ((R.decimal n).length : Int)) ≤ 101 := R.lmax_le (fun x hx => by
    obtain ⟨n, hn, rfl⟩ := List.mem_map.mp hx
    have h := ln n hn
    have := R.decimal_len100 (n := n) (Nat.lt_of_lt_of_le (show n.natAbs < 1180591620717411303424 by omega) (by decide))
    omega) (by decide)
  have dg0 : 0 ≤ R.lmax (numbers.map fun n => ((R.decimal n).length : Int)) := R.lmax_ge (fun x hx => by
    obtain ⟨n, hn, rfl⟩ := List.mem_map.mp hx
    omega) (by decide)
  obtain ⟨x1, x2, x3⟩ := R.maxI_bounds 1 (R.lmax (texts.map fun t => (t.length : Int)))
  obtain ⟨y1, y2, y3⟩ := R.minI_bounds 12 (R.maxI 1 (R.lmax (texts.map fun t => (t.length : Int))))
  have st : Ok K _ F H σ [Vl cells, Vl width, Vl texts, Vl numbers, Vl (R.minI 12 (R.maxI 1 (R.lmax (texts.map fun t => (t.length : Int))))), Vl (R.lmax (numbers.map fun n => ((R.decimal n).length : Int))), .any, .any, .any, .any, .any, .any] := st
  generalize R.minI 12 (R.maxI 1 (R.lmax (texts.map fun t => (t.length : Int)))) = wide at st y1 y2 y3 q
  generalize R.lmax (numbers.map fun n => ((R.decimal n).length : Int)) = digits at st dg dg0 q
  refine q_asg st (st.at (ev_max2 ev_int (ev_sub (ev_sub (ev_sub (st.c.v 1 rfl) (st.c.v 4 rfl)) (st.c.v 5 rfl)) ev_int))) fun F H σ st => ?_
  obtain ⟨z1, z2, z3⟩ := R.maxI_bounds 0 (width - wide - digits - 2)
  refine q_asg st (st.at (ev_t3 (st.c.v 4 rfl) (st.c.v 6 rfl) (st.c.v 5 rfl))) fun F H σ st => ?_
  generalize R.maxI 0 (width - wide - digits - 2) = room at st z1 z2 z3 q
  refine q_newM st (en_nil (α := (List Int))) fun pl F H σ st => ?_
  refine q_for st (ei_zip (st.c.v 2 rfl) (st.c.v 3 rfl)) (fun y => g_pair) (fun i Γ => ∃ pl s t, Γ = [Vl cells, Vl width, Vl texts, Vl numbers, Vl wide, Vl digits, Vl room, Vl (R.T3.mk wide room digits), Mu pl (((texts.zip numbers).take i).map fun p => R.barLine p.1 p.2 (R.lmax numbers) ⟨wide, room, digits⟩ width), s, t, .any]) ⟨pl, _, _, rfl⟩ ?_ ?_
  · rintro G i ⟨text, number⟩ F H σ Γ hb ⟨pl, s, t, rfl⟩ st
    have st : Ok K _ F H σ [Vl cells, Vl width, Vl texts, Vl numbers, Vl wide, Vl digits, Vl room, Vl (R.T3.mk wide room digits), Mu pl (((texts.zip numbers).take i).map fun p => R.barLine p.1 p.2 (R.lmax numbers) ⟨wide, room, digits⟩ width), Vl text, Vl number, .any] := st
    have hm := List.mem_of_getElem? hb
    have ht := lt text (List.of_mem_zip hm).1
    have hn := ln number (List.of_mem_zip hm).2
    have hx := R.le_lmax (List.of_mem_zip hm).2
    have hl := ln _ (R.lmax_mem nn)
    refine s_app st rfl (st.at (ev_call5 (st.c.v 9 rfl) (st.c.v 10 rfl) (ev_max (st.c.v 3 rfl) ?_) (st.c.v 7 rfl) (st.c.v 1 rfl) ?_)) ?_ fun F H st => ⟨_, _, st, ?_⟩
    · exact nn
    · refine ⟨by omega, hn.1, hx, hl.2, ?_, ?_, ?_, ?_, ?_, ?_, w1, w2⟩ <;> (show (_ : Int) ≤ _; simp only []; omega)
    · rw [List.length_map, List.length_take, List.length_zip]
      omega
    · rw [List.take_add_one, hb, List.map_append]
      exact ⟨pl, _, _, rfl⟩
  · rintro F H σ Γ ⟨pl, s, t, rfl⟩ st
    rw [List.take_length] at st
    obtain ⟨F, st⟩ := st.freeze 8 rfl
    exact s_retF st (st.c.v 8 rfl) rfl q
end
end Wk
end
section
set_option Elab.async false
set_option linter.all false
set_option maxRecDepth 100000
set_option maxHeartbeats 4000000
/-! The walk, printed by wip/g/gen.py. -/
namespace Wk
open PySem PySem.Spec PyProof.Rows L2 Ty
open Rep (rep)
section
variable {w : World} {K : Fg} {mg : Str → Option Value}
/-! ### row_total -/
abbrev st41 : Stmt := top 41
abbrev N41 : List Str := ["columns", "cells"]
theorem sc41 : FnScope N41 ["columns", "cells"] (defScope st41) := ⟨rfl, rfl, rfl, by decide +kernel, rfl, by decide +kernel, by decide +kernel⟩
def p_row_total : Int → (List R.Cell) → Prop := fun n _ => 1 ≤ n ∧ n ≤ 1000
set_option maxHeartbeats 4000000 in
theorem ok_row_total (e : Env K mg) : FnAt P w K mg "row_total" 1 ["columns", "cells"] (Sp2 K p_row_total (R.rowTotal)) := by
  refine fn2 (e.defs 36 41 "row_total" rfl) sc41 rfl (fun _ _ _ _ _ _ us hu => match us, hu with | [_, _], _ => rfl) fun base f columns cells hp cdv A outer s H E hr => ⟨_,
    (pss_one (ps_ret (pe_op op_fdivW (pe_callB (len_of (K := K) rfl) (by rfl) (e.free "len" (by decide)) boot_len (pa_cons (pv 1) pa_nil)) (pv 0)))), fun F0 σ Q st q => ?_⟩
  have st : Ok K ⟨F0, H, F0⟩ F0 H σ [Vl columns, Vl cells] := st
  have hp : 1 ≤ columns ∧ columns ≤ 1000 := hp
  refine s_retF st (ev_fdiv (ev_len (st.c.v 1 rfl)) (st.c.v 0 rfl) ?_) rfl q
  · exact cdiv_of (by omega) (by omega)
/-! ### row_cells -/
abbrev st42 : Stmt := top 42
abbrev N42 : List Str := ["columns", "cells", "at"]
theorem sc42 : FnScope N42 ["columns", "cells", "at"] (defScope st42) := ⟨rfl, rfl, rfl, by decide +kernel, rfl, by decide +kernel, by decide +kernel⟩
def p_row_cells : Int → (List R.Cell) → Int → Prop := fun n _ i => 1 ≤ n ∧ n ≤ 1000 ∧ 0 ≤ i ∧ i ≤ 1000
set_option maxHeartbeats 4000000 in
theorem ok_row_cells (e : Env K mg) : FnAt P w K mg "row_cells" 1 ["columns", "cells", "at"] (Sn3 K p_row_cells (R.rowCells)) := by
  refine fnn3 (e.defs 37 42 "row_cells" rfl) sc42 rfl (fun _ _ _ _ _ _ us hu => match us, hu with | [_, _, _], _ => rfl) fun base f columns cells at' hp cdv A outer s H E hr => ⟨_,
    (pss_one (ps_ret (pe_slice (sll_of (K := K) rfl) (pv 1) (po_some (pe_op op_mul (pv 2) (pv 0))) (po_some (pe_op op_mul (pe_op op_add (pv 2) pe_int) (pv 0)))))), fun F0 σ Q st q => ?_⟩
  have st : Ok K ⟨F0, H, F0⟩ F0 H σ [Vl columns, Vl cells, Vl at'] := st
  have hp : 1 ≤ columns ∧ columns ≤ 1000 ∧ 0 ≤ at' ∧ at' ≤ 1000 := hp
  refine s_retNE st (en_cut (st.c.v 1 rfl) (eo_some (ev_mul (st.c.v 2 rfl) (st.c.v 0 rfl) ?_)) (eo_some (ev_mul (ev_add (st.c.v 2 rfl) ev_int) (st.c.v 0 rfl) ?_))) ?_ q
  · exact cmul_r (by omega)
  · exact cmul_r (by omega)
  · exact cut_mid (Int.mul_nonneg (by omega) (by omega)) (Int.mul_nonneg (by omega) (by omega))
/-! ### natural_width -/
abbrev st43 : Stmt := top 43
abbrev N43 : List Str := ["columns", "cells", "column", "cell"]
theorem sc43 : FnScope N43 ["columns", "cells", "column"] (defScope st43) := ⟨rfl, rfl, rfl, by decide +kernel, rfl, by decide +kernel, by decide +kernel⟩
def p_natural_width : Int → (List R.Cell) → Int → Prop := fun n cs k => 1 ≤ n ∧ 0 ≤ k ∧ k < cs.length ∧ cs.length ≤ 1000000 ∧ ∀ c ∈ cs, R.okC c
set_option maxHeartbeats 4000000 in
theorem ok_natural_width (e : Env K mg) : FnAt P w K mg "natural_width" 5 ["columns", "cells", "column"] (Sp3 K p_natural_width (R.naturalWidth)) := by
  refine fn3 (e.defs 38 43 "natural_width" rfl) sc43 rfl (fun _ _ _ _ _ _ us hu => match us, hu with | [_, _, _], _ => rfl) fun base f columns cells column hp cdv A outer s H E hr => ⟨_,
    (pss_one (ps_ret (pe_callB (cr_max rfl) (by rfl) (e.free "max" (by decide)) (by decide +kernel) (pa_cons (pe_lc (own := [("cell", 3)]) (g := gName 3) rfl sc43.nd (pi_list (pe_stride (pv 1) (pv 2) (pv 0))) (blkOk_by (own := [("cell", 3)]) (N := N43) (sc := defScope st43) (by decide +kernel)) (fun _ _ _ _ _ => (pg_name (i := 3) sc43.nd rfl (by first | exact .inl rfl | exact .inr rfl))) (fun _ _ _ _ _ => pts_nil) (fun _ _ _ _ _ => (pe_callB (len_of (K := K) rfl) (by rfl) (e.free "len" (by decide)) boot_len (pa_cons (pe_fn (ok_printed e) (hr.mono (by decide)) (by rfl) (pa_cons (pv 3) pa_nil) pass0) pa_nil)))) pa_nil)))), fun F0 σ Q st q => ?_⟩
  have st : Ok K ⟨F0, H, F0⟩ F0 H σ [Vl columns, Vl cells, Vl column, .any] := st
  obtain ⟨h1, h2, h3, h4, h5⟩ := hp
  have ne : R.stride column.toNat columns.toNat cells ≠ [] := R.stride_ne (by omega) (by omega)
  refine s_retF st (ev_max (en_map st.c (ei_list (en_stride (st.c.v 1 rfl) (st.c.v 2 rfl) (st.c.v 0 rfl) ?_ ?_).ev) ?_ (fun y F1 σ1 hy c => (ev_len (ev_call1 (c.v 3 rfl) ?_)))).ev ?_) rfl q
  · exact h2
  · omega
  · exact Nat.le_trans (stride_len _ _ (by omega) cells) (by omega)
  · have ho := h5 y (R.stride_mem hy)
    exact ⟨R.okC_b ho, Nat.le_trans ho.2 (by decide)⟩
  · exact fun e => ne (List.map_eq_nil_iff.mp e)
/-! ### natural_widths -/
abbrev st44 : Stmt := top 44
abbrev N44 : List Str := ["columns", "cells", "many", "column"]
theorem sc44 : FnScope N44 ["columns", "cells", "many"] (defScope st44) := ⟨rfl, rfl, rfl, by decide +kernel, rfl, by decide +kernel, by decide +kernel⟩
def p_natural_widths : Int → (List R.Cell) → Int → Prop := fun n cs m => R.tabOk n cs ∧ m ≤ n ∧ 0 ≤ m
set_option maxHeartbeats 4000000 in
theorem ok_natural_widths (e : Env K mg) : FnAt P w K mg "natural_widths" 6 ["columns", "cells", "many"] (Sp3 K p_natural_widths (R.naturalWidths)) := by
  refine fn3 (e.defs 39 44 "natural_widths" rfl) sc44 rfl (fun _ _ _ _ _ _ us hu => match us, hu with | [_, _, _], _ => rfl) fun base f columns cells many hp cdv A outer s H E hr => ⟨_,
    (pss_one (ps_ret (pe_lc (own := [("column", 3)]) (g := gName 3) rfl sc44.nd (pi_range1 (by rfl) (e.free "range" (by decide)) (pa_cons (pv 2) pa_nil)) (blkOk_by (own := [("column", 3)]) (N := N44) (sc := defScope st44) (by decide +kernel)) (fun _ _ _ _ _ => (pg_name (i := 3) sc44.nd rfl (by first | exact .inl rfl | exact .inr rfl))) (fun _ _ _ _ _ => pts_nil) (fun _ _ _ _ _ => (pe_fn (ok_natural_width e) (hr.mono (by decide)) (by rfl) (pa_cons (pv 0) (pa_cons (pv 1) (pa_cons (pv 3) pa_nil))) pass0))))), fun F0 σ Q st q => ?_⟩
  have st : Ok K ⟨F0, H, F0⟩ F0 H σ [Vl columns, Vl cells, Vl many, .any] := st
  obtain ⟨⟨h1, h2, h3, h4, h5, h6⟩, h7, h8⟩ := hp
  refine s_retF st ((en_map st.c (ei_rng1 (st.c.v 2 rfl) ?_) ?_ (fun y F1 σ1 hy c => (ev_call3 (c.v 0 rfl) (c.v 1 rfl) (c.v 3 rfl) ?_)))).ev ?_ q
  · omega
  · rw [List.length_map, List.length_range]; omega
  · obtain ⟨i, hi, rfl⟩ := List.mem_map.mp hy
    have := List.mem_range.mp hi
    exact ⟨h1, Int.natCast_nonneg _, by omega, by omega, h6⟩
  · unfold R.naturalWidths
    rw [List.map_map]
    rfl
/-! ### visible_total -/
abbrev st45 : Stmt := top 45
abbrev N45 : List Str := ["columns", "width"]
theorem sc45 : FnScope N45 ["columns", "width"] (defScope st45) := ⟨rfl, rfl, rfl, by decide +kernel, rfl, by decide +kernel, by decide +kernel⟩
def p_visible_total : Int → Int → Prop := fun _ _ => True
set_option maxHeartbeats 4000000 in
theorem ok_visible_total (e : Env K mg) : FnAt P w K mg "visible_total" 1 ["columns", "width"] (Sp2 K p_visible_total (R.visibleTotal)) := by
  refine fn2 (e.defs 40 45 "visible_total" rfl) sc45 rfl (fun _ _ _ _ _ _ us hu => match us, hu with | [_, _], _ => rfl) fun base f columns width hp cdv A outer s H E hr => ⟨_,
    (pss_one (ps_ret (pe_callB (call_min2 rfl) (by rfl) (e.free "min" (by decide)) (by decide +kernel) (pa_cons (pv 0) (pa_cons (pe_op op_fdivW (pe_op op_sub (pv 1) pe_int) pe_int) pa_nil))))), fun F0 σ Q st q => ?_⟩
  have st : Ok K ⟨F0, H, F0⟩ F0 H σ [Vl columns, Vl width] := st
  refine s_retF st (ev_min2 (st.c.v 0 rfl) (ev_fdiv (ev_sub (st.c.v 1 rfl) ev_int) ev_int ?_)) rfl q
  · exact cdiv_of (by decide) (by decide)
/-! ### narrowed -/
abbrev st46 : Stmt := top 46
abbrev N46 : List Str := ["widths", "width", "fitted", "excess", "step", "widest"]
theorem sc46 : FnScope N46 ["widths", "width"] (defScope st46) := ⟨rfl, rfl, rfl, by decide +kernel, rfl, by decide +kernel, by decide +kernel⟩
def p_narrowed : (List Int) → Int → Prop := fun ws w => R.okW ws ∧ ws ≠ [] ∧ 6 * (ws.length : Int) + 1 ≤ w ∧ w ≤ 1000000
set_option maxHeartbeats 4000000 in
theorem ok_narrowed (e : Env K mg) : FnAt P w K mg "narrowed" 1 ["widths", "width"] (Sp2 K p_narrowed (R.narrowed)) := by
  refine fn2 (e.defs 41 46 "narrowed" rfl) sc46 rfl (fun _ _ _ _ _ _ us hu => match us, hu with | [_, _], _ => rfl) fun base f widths width hp cdv A outer s H E hr => ⟨_,
    (pss_cons (ps_set (i := 2) sc46.nd rfl (by first | exact .inl rfl | exact .inr rfl) (pe_callTy call_list_of (by rfl) (e.free "list" (by decide)) (by decide +kernel) (pa_cons (pv 0) pa_nil)))
      (pss_cons (ps_set (i := 3) sc46.nd rfl (by first | exact .inl rfl | exact .inr rfl) (pe_op op_sub (pe_op op_add (pe_op op_add (pe_callB (cr_sum rfl) (by rfl) (e.free "sum" (by decide)) (by decide +kernel) (pa_cons (pv 2) pa_nil)) (pe_op op_mul pe_int (pe_callB (len_of (K := K) rfl) (by rfl) (e.free "len" (by decide)) boot_len (pa_cons (pv 2) pa_nil)))) pe_int) (pv 1)))
      (pss_cons (ps_for PassesOwn.never rfl (pi_range1 (by rfl) (e.free "range" (by decide)) (pa_cons (pv 3) pa_nil)) (pg_name (i := 4) sc46.nd rfl (by first | exact .inl rfl | exact .inr rfl)) (pss_cons (ps_set (i := 5) sc46.nd rfl (by first | exact .inl rfl | exact .inr rfl) (pe_bm PySem.F.plainAttrs_list PySem.F.slot_list_index PySem.F.type_list_index mt_index (pv 2) (pa_cons (pe_callB (cr_max rfl) (by rfl) (e.free "max" (by decide)) (by decide +kernel) (pa_cons (pv 2) pa_nil)) pa_nil)))
      (pss_one (ps_asg (pe_op op_sub (pe_ix (ixl_of (K := K) rfl) (pv 2) (pv 5) (fun _ _ => rfl)) pe_int) (pg_sub (pv 2) (pv 5) set_list)))))
      (pss_one (ps_ret (pv 2)))))), fun F0 σ Q st q => ?_⟩
  have st : Ok K ⟨F0, H, F0⟩ F0 H σ [Vl widths, Vl width, .any, .any, .any, .any] := st
  obtain ⟨h1, h2, h3, h4⟩ := hp
  refine q_newM st (en_list (st.c.v 0 rfl)) fun pl F H σ st => ?_
  have hl := h1.1
  have hsum : widths.sum ≤ 402 * widths.length := R.sum_le_max widths 402 fun w hw => (h1.2 w hw).2
  refine q_asg st (st.atI (ev_sub (ev_add (ev_add (ev_sum (st.h.v 2 rfl)) (ev_mul ev_int (ev_len (st.h.v 2 rfl)) ?_)) ev_int) (st.h.v 1 rfl))) fun F H σ st => ?_
  · exact cmul_l (by omega)
  have st : Ok K _ F H σ [Vl widths, Vl width, Mu pl widths, Vl (R.excess widths width), .any, .any] := st
  have hsum0 := R.sum_ge_min widths 1 fun w hw => (h1.2 w hw).1
  have hex : R.excess widths width ≤ 1000000 ∧ -2000000 ≤ R.excess widths width := by
    unfold R.excess
    omega
  refine q_for st (ei_rng1 (st.c.v 3 rfl) ?_) (fun y => g_name) (fun i Γ => ∃ pl s t, Γ = [Vl widths, Vl width, Mu pl (R.times R.narrow1 i widths), Vl (R.excess widths width), s, t]) ⟨pl, _, _, rfl⟩ ?_ ?_
  · omega
  · rintro G i y F H σ Γ hb ⟨pl, s, t, rfl⟩ st
    have hi : i < (R.excess widths width).toNat := by
      obtain ⟨h5, h6⟩ := List.getElem?_eq_some_iff.mp hb
      rw [List.length_map, List.length_range] at h5
      exact h5
    have st : Ok K _ F H σ [Vl widths, Vl width, Mu pl (R.times R.narrow1 i widths), Vl (R.excess widths width), Vl y, t] := st
    have tl := R.times_len i widths
    obtain ⟨t1, t2⟩ := R.times_ok h1 h2 h3 i (by omega)
    have es : R.times R.narrow1 (i + 1) widths = R.narrow1 (R.times R.narrow1 i widths) := rfl
    generalize R.times R.narrow1 i widths = ws at st tl t1 t2 es
    have ne : ws ≠ [] := fun e => by
      rw [e] at tl
      exact h2 (List.length_eq_zero_iff.mp tl.symm)
    obtain ⟨p1, p2⟩ := R.placeOf_lt (R.lmax_mem ne)
    refine q_asg st (st.atI (ev_index (st.h.v 2 rfl) (ev_max (st.h.v 2 rfl) ?_) ?_)) fun F H σ st => ?_
    · exact ne
    · exact R.lmax_mem ne
    have st : Ok K _ F H σ [Vl widths, Vl width, Mu pl ws, Vl (R.excess widths width), Vl y, Vl (R.placeOf (R.lmax ws) ws : Int)] := st
    refine s_setI st rfl (st.atI (ev_sub (ev_ix (x := (ws.getD (R.placeOf (R.lmax ws) ws) 0)) (st.h.v 2 rfl) (st.h.v 5 rfl) ?_) ev_int)) (fun F H st => st.at (st.c.v 5 rfl)) (Int.natCast_nonneg _) (by omega) fun F H st => ⟨_, _, st, ?_⟩
    · exact atI_nat (R.getD_some p1)
    · exact ⟨pl, _, _, by rw [es]; rfl⟩
  · rintro F H σ Γ ⟨pl, s, t, rfl⟩ st
    rw [List.length_map, List.length_range] at st
    obtain ⟨F, st⟩ := st.freeze 2 rfl
    exact s_retF st (st.c.v 2 rfl) rfl q
/-! ### fitting_widths -/
abbrev st47 : Stmt := top 47
abbrev N47 : List Str := ["columns", "cells", "width"]
theorem sc47 : FnScope N47 ["columns", "cells", "width"] (defScope st47) := ⟨rfl, rfl, rfl, by decide +kernel, rfl, by decide +kernel, by decide +kernel⟩
def p_fitting_widths : Int → (List R.Cell) → Int → Prop := fun n cs w => R.tabOk n cs ∧ 20 ≤ w ∧ w ≤ 1000
set_option maxHeartbeats 4000000 in
theorem ok_fitting_widths (e : Env K mg) : FnAt P w K mg "fitting_widths" 7 ["columns", "cells", "width"] (Sp3 K p_fitting_widths (R.fittingWidths)) := by
  refine fn3 (e.defs 42 47 "fitting_widths" rfl) sc47 rfl (fun _ _ _ _ _ _ us hu => match us, hu with | [_, _, _], _ => rfl) fun base f columns cells width hp cdv A outer s H E hr => ⟨_,
    (pss_one (ps_ret (pe_fn (ok_narrowed e) (hr.mono (by decide)) (by rfl) (pa_cons (pe_fn (ok_natural_widths e) (hr.mono (by decide)) (by rfl) (pa_cons (pv 0) (pa_cons (pv 1) (pa_cons (pe_fn (ok_visible_total e) (hr.mono (by decide)) (by rfl) (pa_cons (pv 0) (pa_cons (pv 2) pa_nil)) pass0) pa_nil))) pass0) (pa_cons (pv 2) pa_nil)) pass0))), fun F0 σ Q st q => ?_⟩
  have st : Ok K ⟨F0, H, F0⟩ F0 H σ [Vl columns, Vl cells, Vl width] := st
  obtain ⟨h1, h2, h3⟩ := hp
  obtain ⟨v1, v2, v3⟩ := R.visible_bounds h1.1 h2
  have hl := R.naturalWidths_len columns (R.visibleTotal columns width) cells
  refine s_retF st (ev_call2 (ev_call3 (st.c.v 0 rfl) (st.c.v 1 rfl) (ev_call2 (st.c.v 0 rfl) (st.c.v 2 rfl) ?_) ?_) (st.c.v 2 rfl) ?_) rfl q
  · trivial
  · exact ⟨h1, v2, by omega⟩
  · refine ⟨R.naturalWidths_ok h1 v2, fun e => ?_, by omega, by omega⟩
    rw [e, List.length_nil] at hl
    omega
/-! ### ruler -/
abbrev st48 : Stmt := top 48
abbrev N48 : List Str := ["widths", "row", "width"]
theorem sc48 : FnScope N48 ["widths"] (defScope st48) := ⟨rfl, rfl, rfl, by decide +kernel, rfl, by decide +kernel, by decide +kernel⟩
def p_ruler : (List Int) → Prop := R.okW
set_option maxHeartbeats 4000000 in
theorem ok_ruler (e : Env K mg) : FnAt P w K mg "ruler" 2 ["widths"] (Sp1 K p_ruler (R.ruler)) := by
  refine fn1 (e.defs 43 48 "ruler" rfl) sc48 rfl (fun _ _ _ _ _ _ us hu => match us, hu with | [_], _ => rfl) fun base f widths hp cdv A outer s H E hr => ⟨_,
    (pss_cons (ps_set (i := 1) sc48.nd rfl (by first | exact .inl rfl | exact .inr rfl) (pe_lst pa_nil))
      (pss_cons (ps_for PassesOwn.never rfl (pi_list (pv 0)) (pg_name (i := 2) sc48.nd rfl (by first | exact .inl rfl | exact .inr rfl)) (pss_cons (ps_expr (pe_bm PySem.F.plainAttrs_list PySem.F.slot_list_append PySem.F.type_list_append mt_append (pv 1) (pa_cons pe_int pa_nil)))
      (pss_one (ps_expr (pe_bm PySem.F.plainAttrs_list PySem.F.slot_list_extend PySem.F.type_list_extend mt_extend (pv 1) (pa_cons (pe_fn (ok_repeated e) (hr.mono (by decide)) (by rfl) (pa_cons pe_int (pa_cons (pe_op op_add (pv 2) pe_int) pa_nil)) pass0) pa_nil))))))
      (pss_one (ps_ret (pe_op op_cat (pv 1) (pe_lst (pa_cons pe_int pa_nil))))))), fun F0 σ Q st q => ?_⟩
  have st : Ok K ⟨F0, H, F0⟩ F0 H σ [Vl widths, .any, .any] := st
  have hp : R.okW widths := hp
  have h1 := hp.1
  have h2 := R.rulerGo_len hp
  refine q_newM st (en_nil (α := Int)) fun pl F H σ st => ?_
  refine q_for st (ei_list (st.c.v 0 rfl)) (fun y => g_name) (fun i Γ => ∃ pl s, Γ = [Vl widths, Mu pl ((widths.take i).flatMap fun w => 43 :: R.repeated 45 (w + 2)), s]) ⟨pl, _, rfl⟩ ?_ ?_
  · rintro G i width F H σ Γ hb ⟨pl, s, rfl⟩ st
    have hw := hp.2 _ (List.mem_of_getElem? hb)
    have hm := R.flatMap_take_le (fun w => 43 :: R.repeated 45 (w + 2)) widths i
    have hr := R.repeated_len 45 (width + 2)
    have st : Ok K _ F H σ [Vl widths, Mu pl ((widths.take i).flatMap fun w => 43 :: R.repeated 45 (w + 2)), Vl width] := st
    refine q_app st rfl (st.at ev_int) ?_ fun F H st => ?_
    · omega
    refine s_ext st rfl (st.at (en_call2 ev_int (ev_add (st.c.v 2 rfl) ev_int) ?_).ev) ?_ fun F H st => ⟨_, _, st, ?_⟩
    · exact ⟨by omega, by omega⟩
    · rw [List.length_append, List.length_singleton]; omega
    · rw [List.take_add_one, hb, List.flatMap_append, List.append_assoc]
      exact ⟨pl, Vl width, by simp⟩
  · rintro F H σ Γ ⟨pl, s, rfl⟩ st
    rw [List.take_length] at st
    obtain ⟨F, st⟩ := st.freeze 1 rfl
    refine s_retF st (en_cat (st.c.v 1 rfl) (en_one ev_int).ev ?_).ev rfl q
    rw [List.length_singleton]
    exact Nat.le_trans (Nat.succ_le_succ h2) (by decide)
/-! ### filled_cell -/
abbrev st49 : Stmt := top 49
abbrev N49 : List Str := ["cell", "width", "form"]
theorem sc49 : FnScope N49 ["cell", "width"] (defScope st49) := ⟨rfl, rfl, rfl, by decide +kernel, rfl, by decide +kernel, by decide +kernel⟩
def p_filled_cell : R.Cell → Int → Prop := fun c w => R.okC c ∧ 1 ≤ w ∧ w ≤ 402
set_option maxHeartbeats 4000000 in
theorem ok_filled_cell (e : Env K mg) : FnAt P w K mg "filled_cell" 5 ["cell", "width"] (Sp2 K p_filled_cell (R.filledCell)) := by
  refine fn2 (e.defs 44 49 "filled_cell" rfl) sc49 rfl (fun _ _ _ _ _ _ us hu => match us, hu with | [_, _], _ => rfl) fun base f cell width hp cdv A outer s H E hr => ⟨_,
    (pss_cons (ps_set (i := 2) sc49.nd rfl (by first | exact .inl rfl | exact .inr rfl) (pe_fn (ok_shortened e) (hr.mono (by decide)) (by rfl) (pa_cons (pe_fn (ok_printed e) (hr.mono (by decide)) (by rfl) (pa_cons (pv 0) pa_nil) pass0) (pa_cons (pv 1) pa_nil)) pass0))
      (pss_cons (ps_if (pt_val (pe_fn (ok_is_number e) (hr.mono (by decide)) (by rfl) (pa_cons (pv 0) pa_nil) pass0)) (pss_one (ps_ret (pe_fn (ok_filled_before e) (hr.mono (by decide)) (by rfl) (pa_cons (pv 2) (pa_cons (pv 1) pa_nil)) pass0))) pss_nil)
      (pss_one (ps_ret (pe_fn (ok_filled_behind e) (hr.mono (by decide)) (by rfl) (pa_cons (pv 2) (pa_cons (pv 1) pa_nil)) pass0))))), fun F0 σ Q st q => ?_⟩
  have st : Ok K ⟨F0, H, F0⟩ F0 H σ [Vl cell, Vl width, .any] := st
  obtain ⟨h1, h2, h3⟩ := hp
  have h4 := R.printed_len h1
  have h5 := R.shortened_len (R.printed cell) width h2
  refine q_asg st (st.at (ev_call2 (ev_call1 (st.c.v 0 rfl) ?_) (st.c.v 1 rfl) ?_)) fun F H σ st => ?_
  · exact ⟨R.okC_b h1, Nat.le_trans h1.2 (by decide)⟩
  · exact ⟨by omega, h2, by omega⟩
  have st : Ok K _ F H σ [Vl cell, Vl width, Vl (R.shortened (R.printed cell) width)] := st
  refine q_if st (et_B (ev_call1 (st.h.v 0 rfl) ?_)) (fun hb F H st => ?_) (fun hb F H st => ?_)
  · trivial
  · refine s_retF st (ev_call2 (st.c.v 2 rfl) (st.c.v 1 rfl) ?_) (if_pos hb).symm q
    exact ⟨by omega, by omega, by omega⟩
  · refine s_retF st (ev_call2 (st.c.v 2 rfl) (st.c.v 1 rfl) ?_) (if_neg (by rw [hb]; decide)).symm q
    exact ⟨by omega, by omega, by omega⟩
/-! ### table_row -/
abbrev st50 : Stmt := top 50
abbrev N50 : List Str := ["cells", "widths", "row", "cell", "width"]
theorem sc50 : FnScope N50 ["cells", "widths"] (defScope st50) := ⟨rfl, rfl, rfl, by decide +kernel, rfl, by decide +kernel, by decide +kernel⟩
def p_table_row : (List R.Cell) → (List Int) → Prop := fun cs ws => R.okW ws ∧ ∀ c ∈ cs, R.okC c
set_option maxHeartbeats 4000000 in
theorem ok_table_row (e : Env K mg) : FnAt P w K mg "table_row" 6 ["cells", "widths"] (Sp2 K p_table_row (R.tableRow)) := by
  refine fn2 (e.defs 45 50 "table_row" rfl) sc50 rfl (fun _ _ _ _ _ _ us hu => match us, hu with | [_, _], _ => rfl) fun base f cells widths hp cdv A outer s H E hr => ⟨_,
    (pss_cons (ps_set (i := 2) sc50.nd rfl (by first | exact .inl rfl | exact .inr rfl) (pe_lst pa_nil))
      (pss_cons (ps_for PassesOwn.never rfl (pi_zip (by rfl) (e.free "zip" (by decide)) (pa_cons (pv 0) (pa_cons (pv 1) pa_nil))) (pg_tup rfl (pgs_cons (pg_name (i := 3) sc50.nd rfl (by first | exact .inl rfl | exact .inr rfl)) (pgs_cons (pg_name (i := 4) sc50.nd rfl (by first | exact .inl rfl | exact .inr rfl)) pgs_nil))) (pss_cons (ps_expr (pe_bm PySem.F.plainAttrs_list PySem.F.slot_list_extend PySem.F.type_list_extend mt_extend (pv 2) (pa_cons (pe_lst (pa_cons pe_int (pa_cons pe_int pa_nil))) pa_nil)))
      (pss_cons (ps_expr (pe_bm PySem.F.plainAttrs_list PySem.F.slot_list_extend PySem.F.type_list_extend mt_extend (pv 2) (pa_cons (pe_fn (ok_filled_cell e) (hr.mono (by decide)) (by rfl) (pa_cons (pv 3) (pa_cons (pv 4) pa_nil)) pass0) pa_nil)))
      (pss_one (ps_expr (pe_bm PySem.F.plainAttrs_list PySem.F.slot_list_append PySem.F.type_list_append mt_append (pv 2) (pa_cons pe_int pa_nil)))))))
      (pss_one (ps_ret (pe_op op_cat (pv 2) (pe_lst (pa_cons pe_int pa_nil))))))), fun F0 σ Q st q => ?_⟩
  have st : Ok K ⟨F0, H, F0⟩ F0 H σ [Vl cells, Vl widths, .any, .any, .any] := st
  obtain ⟨h1, h2⟩ := hp
  have hl := R.rowGo_len (cs := cells) h1
  refine q_newM st (en_nil (α := Int)) fun pl F H σ st => ?_
  refine q_for st (ei_zip (st.c.v 0 rfl) (st.c.v 1 rfl)) (fun y => g_pair) (fun i Γ => ∃ pl s t, Γ = [Vl cells, Vl widths, Mu pl (((cells.zip widths).take i).flatMap fun p => [124, 32] ++ R.filledCell p.1 p.2 ++ [32]), s, t]) ⟨pl, _, _, rfl⟩ ?_ ?_
  · rintro G i ⟨cell, width⟩ F H σ Γ hb ⟨pl, s, t, rfl⟩ st
    have hm := List.mem_of_getElem? hb
    have hw := h1.2 _ (List.of_mem_zip hm).2
    have hc := h2 _ (List.of_mem_zip hm).1
    have hf := R.filledCell_len (c := cell) hw.1 hw.2
    have ht := R.flatMap_take_le (fun (p : R.Cell × Int) => [124, 32] ++ R.filledCell p.1 p.2 ++ [32]) (cells.zip widths) i
    have st : Ok K _ F H σ [Vl cells, Vl widths, Mu pl (((cells.zip widths).take i).flatMap fun p => [124, 32] ++ R.filledCell p.1 p.2 ++ [32]), Vl cell, Vl width] := st
    have eq0 : (((cells.zip widths).take i).flatMap fun p => [124, 32] ++ R.filledCell p.1 p.2 ++ [32]) ++ [124, 32] ++ R.filledCell cell width ++ [32] = ((cells.zip widths).take (i + 1)).flatMap fun p => [124, 32] ++ R.filledCell p.1 p.2 ++ [32] := by
      rw [List.take_add_one, hb, List.flatMap_append]
      simp
    generalize (((cells.zip widths).take i).flatMap fun p => [124, 32] ++ R.filledCell p.1 p.2 ++ [32]) = row at st ht eq0
    refine q_ext st rfl (st.at (en_two ev_int ev_int).ev) ?_ fun F H st => ?_
    · show row.length + 2 ≤ _
      omega
    refine q_ext st rfl (st.at (ev_call2 (st.c.v 3 rfl) (st.c.v 4 rfl) ?_)) ?_ fun F H st => ?_
    · exact ⟨hc, hw.1, hw.2⟩
    · rw [List.length_append]
      show row.length + 2 + _ ≤ _
      omega
    refine s_app st rfl (st.at ev_int) ?_ fun F H st => ⟨_, _, st, ?_⟩
    · rw [List.length_append, List.length_append]
      show row.length + 2 + _ < _
      omega
    · rw [← eq0]
      exact ⟨pl, _, _, rfl⟩
  · rintro F H σ Γ ⟨pl, s, t, rfl⟩ st
    rw [List.take_length] at st
    obtain ⟨F, st⟩ := st.freeze 2 rfl
    refine s_retF st (en_cat (st.c.v 2 rfl) (en_one ev_int).ev ?_).ev rfl q
    rw [List.length_singleton]
    exact Nat.le_trans (Nat.succ_le_succ hl) (by decide)
/-! ### framed -/
abbrev st51 : Stmt := top 51
abbrev N51 : List Str := ["columns", "cells", "widths", "lines", "at"]
theorem sc51 : FnScope N51 ["columns", "cells", "widths"] (defScope st51) := ⟨rfl, rfl, rfl, by decide +kernel, rfl, by decide +kernel, by decide +kernel⟩
def p_framed : Int → (List R.Cell) → (List Int) → Prop := fun n cs ws => R.tabOk n cs ∧ R.okW ws
set_option maxHeartbeats 4000000 in
theorem ok_framed (e : Env K mg) : FnAt P w K mg "framed" 7 ["columns", "cells", "widths"] (Sp3 K p_framed (R.framed)) := by
  refine fn3 (e.defs 46 51 "framed" rfl) sc51 rfl (fun _ _ _ _ _ _ us hu => match us, hu with | [_, _, _], _ => rfl) fun base f columns cells widths hp cdv A outer s H E hr => ⟨_,
    (pss_cons (ps_set (i := 3) sc51.nd rfl (by first | exact .inl rfl | exact .inr rfl) (pe_lst (pa_cons (pe_fn (ok_ruler e) (hr.mono (by decide)) (by rfl) (pa_cons (pv 2) pa_nil) pass0) (pa_cons (pe_fn (ok_table_row e) (hr.mono (by decide)) (by rfl) (pa_cons (pe_fn (ok_row_cells e) (hr.mono (by decide)) (by rfl) (pa_cons (pv 0) (pa_cons (pv 1) (pa_cons pe_int pa_nil))) pass0) (pa_cons (pv 2) pa_nil)) pass0) (pa_cons (pe_fn (ok_ruler e) (hr.mono (by decide)) (by rfl) (pa_cons (pv 2) pa_nil) pass0) pa_nil)))))
      (pss_cons (ps_for PassesOwn.never rfl (pi_range2 (by rfl) (e.free "range" (by decide)) (pa_cons pe_int (pa_cons (pe_fn (ok_row_total e) (hr.mono (by decide)) (by rfl) (pa_cons (pv 0) (pa_cons (pv 1) pa_nil)) pass0) pa_nil))) (pg_name (i := 4) sc51.nd rfl (by first | exact .inl rfl | exact .inr rfl)) (pss_one (ps_expr (pe_bm PySem.F.plainAttrs_list PySem.F.slot_list_append PySem.F.type_list_append mt_append (pv 3) (pa_cons (pe_fn (ok_table_row e) (hr.mono (by decide)) (by rfl) (pa_cons (pe_fn (ok_row_cells e) (hr.mono (by decide)) (by rfl) (pa_cons (pv 0) (pa_cons (pv 1) (pa_cons (pv 4) pa_nil))) pass0) (pa_cons (pv 2) pa_nil)) pass0) pa_nil)))))
      (pss_one (ps_ret (pe_op op_cat (pv 3) (pe_lst (pa_cons (pe_fn (ok_ruler e) (hr.mono (by decide)) (by rfl) (pa_cons (pv 2) pa_nil) pass0) pa_nil))))))), fun F0 σ Q st q => ?_⟩
  have st : Ok K ⟨F0, H, F0⟩ F0 H σ [Vl columns, Vl cells, Vl widths, .any, .any] := st
  obtain ⟨h1, h2⟩ := hp
  obtain ⟨t1, t2, t3⟩ := R.rowTotal_bounds h1
  have c1 := h1.1
  have c2 := h1.2.1
  have hrow : ∀ i : Int, ∀ c ∈ R.rowCells columns cells i, R.okC c := fun i c hc => h1.2.2.2.2.2 c (R.rowCells_mem hc)
  refine q_newM st (en_three (ev_call1 (st.c.v 2 rfl) ?_) (ev_call2 (en_call3 (st.c.v 0 rfl) (st.c.v 1 rfl) ev_int ?_).ev (st.c.v 2 rfl) ?_) (ev_call1 (st.c.v 2 rfl) ?_)) fun pl F H σ st => ?_
  · exact h2
  · exact ⟨by omega, by omega, by decide, by decide⟩
  · exact ⟨h2, hrow 0⟩
  · exact h2
  refine q_for st (ei_rng2 ev_int (ev_call2 (st.c.v 0 rfl) (st.c.v 1 rfl) ?_) ?_ ?_) (fun y => g_name) (fun i Γ => ∃ pl s, Γ = [Vl columns, Vl cells, Vl widths, Mu pl ([R.ruler widths, R.tableRow (R.rowCells columns cells 0) widths, R.ruler widths] ++ (List.range i).map fun (i : Nat) => R.tableRow (R.rowCells columns cells (1 + i)) widths), s]) ⟨pl, _, rfl⟩ ?_ ?_
  · exact ⟨by omega, by omega⟩
  · omega
  · omega
  · rintro G i y F H σ Γ hb ⟨pl, s, rfl⟩ st
    obtain ⟨hi, rfl⟩ : i < (R.rowTotal columns cells - 1).toNat ∧ 1 + (i : Int) = y := by
      obtain ⟨h5, h6⟩ := List.getElem?_eq_some_iff.mp hb
      rw [List.length_map, List.length_range] at h5
      rw [List.getElem_map, List.getElem_range] at h6
      exact ⟨h5, h6⟩
    have st : Ok K _ F H σ [Vl columns, Vl cells, Vl widths, Mu pl ([R.ruler widths, R.tableRow (R.rowCells columns cells 0) widths, R.ruler widths] ++ (List.range i).map fun (i : Nat) => R.tableRow (R.rowCells columns cells (1 + i)) widths), Vl (1 + (i : Int))] := st
    refine s_app st rfl (st.at (ev_call2 (en_call3 (st.c.v 0 rfl) (st.c.v 1 rfl) (st.c.v 4 rfl) ?_).ev (st.c.v 2 rfl) ?_)) ?_ fun F H st => ⟨_, _, st, ?_⟩
    · exact ⟨by omega, by omega, by omega, by omega⟩
    · exact ⟨h2, hrow _⟩
    · rw [List.length_append, List.length_map, List.length_range]
      show 3 + i < _
      omega
    · rw [List.range_succ, List.map_append, ← List.append_assoc]
      exact ⟨pl, _, rfl⟩
  · rintro F H σ Γ ⟨pl, s, rfl⟩ st
    rw [List.length_map, List.length_range] at st
    obtain ⟨F, st⟩ := st.freeze 3 rfl
    refine s_retF st (en_cat (st.c.v 3 rfl) (en_one (ev_call1 (st.c.v 2 rfl) ?_)).ev ?_).ev rfl q
    · exact h2
    · rw [List.length_append, List.length_map, List.length_range, List.length_singleton]
      show 3 + _ + 1 ≤ _
      omega
/-! ### table_lines -/
abbrev st52 : Stmt := top 52
abbrev N52 : List Str := ["columns", "cells", "width", "widths", "lines"]
theorem sc52 : FnScope N52 ["columns", "cells", "width"] (defScope st52) := ⟨rfl, rfl, rfl, by decide +kernel, rfl, by decide +kernel, by decide +kernel⟩
def p_table_lines : Int → (List R.Cell) → Int → Prop := fun n cs w => R.tabOk n cs ∧ 20 ≤ w ∧ w ≤ 1000
set_option maxHeartbeats 4000000 in
theorem ok_table_lines (e : Env K mg) : FnAt P w K mg "table_lines" 8 ["columns", "cells", "width"] (Sp3 K p_table_lines (R.tableLines)) := by
  refine fn3 (e.defs 47 52 "table_lines" rfl) sc52 rfl (fun _ _ _ _ _ _ us hu => match us, hu with | [_, _, _], _ => rfl) fun base f columns cells width hp cdv A outer s H E hr => ⟨_,
    (pss_cons (ps_set (i := 3) sc52.nd rfl (by first | exact .inl rfl | exact .inr rfl) (pe_fn (ok_fitting_widths e) (hr.mono (by decide)) (by rfl) (pa_cons (pv 0) (pa_cons (pv 1) (pa_cons (pv 2) pa_nil))) pass0))
      (pss_cons (ps_set (i := 4) sc52.nd rfl (by first | exact .inl rfl | exact .inr rfl) (pe_fn (ok_framed e) (hr.mono (by decide)) (by rfl) (pa_cons (pv 0) (pa_cons (pv 1) (pa_cons (pv 3) pa_nil))) pass0))
      (pss_cons (ps_if (pt_cmpR op_eq (pe_callB (len_of (K := K) rfl) (by rfl) (e.free "len" (by decide)) boot_len (pa_cons (pv 3) pa_nil)) (pv 0) (nomark _)) (pss_one (ps_ret (pv 4))) pss_nil)
      (pss_one (ps_ret (pe_op op_cat (pv 4) (pe_lst (pa_cons (pe_op op_cat (pe_op op_cat (pe_fn (ok_signs e) (hr.mono (by decide)) (by rfl) (pa_cons pe_str pa_nil) pass0) (pe_fn (ok_decimal e) (hr.mono (by decide)) (by rfl) (pa_cons (pe_op op_sub (pv 0) (pe_callB (len_of (K := K) rfl) (by rfl) (e.free "len" (by decide)) boot_len (pa_cons (pv 3) pa_nil))) pa_nil) pass0)) (pe_fn (ok_signs e) (hr.mono (by decide)) (by rfl) (pa_cons pe_str pa_nil) pass0)) pa_nil)))))))), fun F0 σ Q st q => ?_⟩
  have st : Ok K ⟨F0, H, F0⟩ F0 H σ [Vl columns, Vl cells, Vl width, .any, .any] := st
  obtain ⟨h1, h2, h3⟩ := hp
  obtain ⟨f1, f2⟩ := R.fitting_ok h1 h2
  obtain ⟨t1, t2, t3⟩ := R.rowTotal_bounds h1
  have c1 := h1.1
  have c2 := h1.2.1
  have hp1 := f1.1
  refine q_asg st (st.at (ev_call3 (st.c.v 0 rfl) (st.c.v 1 rfl) (st.c.v 2 rfl) ?_)) fun F H σ st => ?_
  · exact ⟨h1, h2, h3⟩
  have st : Ok K _ F H σ [Vl columns, Vl cells, Vl width, Vl (R.fittingWidths columns cells width), .any] := st
  refine q_asg st (st.at (ev_call3 (st.c.v 0 rfl) (st.c.v 1 rfl) (st.c.v 3 rfl) ?_)) fun F H σ st => ?_
  · exact ⟨h1, f1⟩
  have st : Ok K _ F H σ [Vl columns, Vl cells, Vl width, Vl (R.fittingWidths columns cells width), Vl (R.framed columns cells (R.fittingWidths columns cells width))] := st
  refine q_if st (et_test (ev_eq (ev_len (st.h.v 3 rfl)) (st.h.v 0 rfl))) (fun hb F H st => ?_) (fun hb F H st => ?_)
  · exact s_retF st (st.c.v 4 rfl) (if_pos (of_decide_eq_true hb)).symm q
  have d1 := R.decimal_len100 (n := columns - (R.fittingWidths columns cells width).length) (Nat.lt_of_lt_of_le (show (columns - ((R.fittingWidths columns cells width).length : Int)).natAbs < 1000000 by omega) (by decide))
  refine s_retF st (en_cat (st.c.v 4 rfl) (en_one (en_cat (en_cat (ev_call1 ev_str ?_) (ev_call1 (ev_sub (st.c.v 0 rfl) (ev_len (st.c.v 3 rfl))) ?_) ?_).ev (ev_call1 ev_str ?_) ?_).ev).ev ?_).ev ?_ q
  · exact (by decide : (2 : Nat) ≤ 1000000)
  · exact Nat.lt_of_lt_of_le (show (columns - ((R.fittingWidths columns cells width).length : Int)).natAbs < 1000000 by omega) (by decide)
  · show 2 + _ ≤ _
    omega
  · exact (by decide : (1 : Nat) ≤ 1000000)
  · rw [List.length_append]
    show 2 + _ + 1 ≤ _
    omega
  · unfold R.framed
    rw [List.length_append, List.length_append, List.length_map, List.length_range]
    show 3 + _ + 1 + 1 ≤ _
    omega
  · have e : R.tableLines columns cells width = R.framed columns cells (R.fittingWidths columns cells width) ++ [R.signs "(+" ++ R.decimal (columns - (R.fittingWidths columns cells width).length) ++ R.signs ")"] := if_neg (of_decide_eq_false hb)
    rw [e, ← codesOf, ← codesOf]
/-! ### full_text -/
abbrev st53 : Stmt := top 53
abbrev N53 : List Str := ["columns", "cells"]
theorem sc53 : FnScope N53 ["columns", "cells"] (defScope st53) := ⟨rfl, rfl, rfl, by decide +kernel, rfl, by decide +kernel, by decide +kernel⟩
def p_full_text : Int → (List R.Cell) → Prop := R.tabOk
set_option maxHeartbeats 4000000 in
theorem ok_full_text (e : Env K mg) : FnAt P w K mg "full_text" 8 ["columns", "cells"] (Sp2 K p_full_text (R.fullText)) := by
  refine fn2 (e.defs 48 53 "full_text" rfl) sc53 rfl (fun _ _ _ _ _ _ us hu => match us, hu with | [_, _], _ => rfl) fun base f columns cells hp cdv A outer s H E hr => ⟨_,
    (pss_one (ps_ret (pe_fn (ok_joined e) (hr.mono (by decide)) (by rfl) (pa_cons (pe_fn (ok_framed e) (hr.mono (by decide)) (by rfl) (pa_cons (pv 0) (pa_cons (pv 1) (pa_cons (pe_fn (ok_natural_widths e) (hr.mono (by decide)) (by rfl) (pa_cons (pv 0) (pa_cons (pv 1) (pa_cons (pv 0) pa_nil))) pass0) pa_nil))) pass0) pa_nil) pass0))), fun F0 σ Q st q => ?_⟩
  have st : Ok K ⟨F0, H, F0⟩ F0 H σ [Vl columns, Vl cells] := st
  have hp : R.tabOk columns cells := hp
  have h1 := R.naturalWidths_ok hp (Int.le_refl _)
  obtain ⟨t1, t2, t3⟩ := R.rowTotal_bounds hp
  refine s_retF st (ev_call1 (ev_call3 (st.c.v 0 rfl) (st.c.v 1 rfl) (ev_call3 (st.c.v 0 rfl) (st.c.v 1 rfl) (st.c.v 0 rfl) ?_) ?_) ?_) rfl q
  · exact ⟨hp, Int.le_refl _, by have := hp.1; omega⟩
  · exact ⟨hp, h1⟩
  · exact R.framed_len hp h1
/-! ### stays_ahead -/
abbrev st54 : Stmt := top 54
abbrev N54 : List Str := ["earlier", "later", "descending"]
theorem sc54 : FnScope N54 ["earlier", "later", "descending"] (defScope st54) := ⟨rfl, rfl, rfl, by decide +kernel, rfl, by decide +kernel, by decide +kernel⟩
def p_stays_ahead : R.Cell → R.Cell → Int → Prop := fun _ _ _ => True
set_option maxHeartbeats 4000000 in
theorem ok_stays_ahead (e : Env K mg) : FnAt P w K mg "stays_ahead" 1 ["earlier", "later", "descending"] (Sp3 K p_stays_ahead (R.staysAhead)) := by
  refine fn3 (e.defs 49 54 "stays_ahead" rfl) sc54 rfl (fun _ _ _ _ _ _ us hu => match us, hu with | [_, _, _], _ => rfl) fun base f earlier later descending hp cdv A outer s H E hr => ⟨_,
    (pss_cons (ps_if (pt_cmpR op_eq (pv 2) pe_int (nomark _)) (pss_one (ps_ret (pe_not (pe_cmpR (op_ltC hr.units) (pv 0) (pv 1) (nomark _))))) pss_nil)
      (pss_one (ps_ret (pe_not (pe_cmpR (op_ltC hr.units) (pv 1) (pv 0) (nomark _)))))), fun F0 σ Q st q => ?_⟩
  have st : Ok K ⟨F0, H, F0⟩ F0 H σ [Vl earlier, Vl later, Vl descending] := st
  refine q_if st (et_test (ev_eq (st.h.v 2 rfl) ev_int)) (fun hb F H st => ?_) (fun hb F H st => ?_)
  · exact s_retF st (ev_not (ev_ltC (st.c.v 0 rfl) (st.c.v 1 rfl))) (if_pos (of_decide_eq_true hb)).symm q
  · exact s_retF st (ev_not (ev_ltC (st.c.v 1 rfl) (st.c.v 0 rfl))) (if_neg (of_decide_eq_false hb)).symm q
/-! ### inserted -/
abbrev st55 : Stmt := top 55
abbrev N55 : List Str := ["rows", "row", "column", "descending", "ahead", "place", "other"]
theorem sc55 : FnScope N55 ["rows", "row", "column", "descending"] (defScope st55) := ⟨rfl, rfl, rfl, by decide +kernel, rfl, by decide +kernel, by decide +kernel⟩
def p_inserted : (List (List R.Cell)) → (List R.Cell) → Int → Int → Prop := fun rs r k _ => rs.length ≤ 1000 ∧ 0 ≤ k ∧ k < r.length ∧ ∀ x ∈ rs, k < x.length
set_option maxHeartbeats 4000000 in
theorem ok_inserted (e : Env K mg) : FnAt P w K mg "inserted" 2 ["rows", "row", "column", "descending"] (Sp4 K p_inserted (R.inserted)) := by
  refine fn4 (e.defs 50 55 "inserted" rfl) sc55 rfl (fun _ _ _ _ _ _ us hu => match us, hu with | [_, _, _, _], _ => rfl) fun base f rows row column descending hp cdv A outer s H E hr => ⟨_,
    (pss_cons (ps_setLc (i := 4) (own := [("other", 6)]) (g := gName 6) rfl sc55.nd rfl rfl (sw_true rfl rfl rfl (by decide +kernel)) (pi_list (pv 0)) (blkOk_by (own := [("other", 6)]) (N := N55) (sc := defScope st55) (by decide +kernel)) (fun _ _ _ _ _ => (pg_name (i := 6) sc55.nd rfl (by first | exact .inl rfl | exact .inr rfl))) (fun _ _ _ _ _ => pts_one (pt_val (pe_fn (ok_stays_ahead e) (hr.mono (by decide)) (by rfl) (pa_cons (pe_ix (ixl_of (K := K) rfl) (pv 6) (pv 2) (fun _ _ => rfl)) (pa_cons (pe_ix (ixl_of (K := K) rfl) (pv 1) (pv 2) (fun _ _ => rfl)) (pa_cons (pv 3) pa_nil))) pass0))) (fun _ _ _ _ _ => (pv 6)))
      (pss_cons (ps_set (i := 5) sc55.nd rfl (by first | exact .inl rfl | exact .inr rfl) (pe_callB (len_of (K := K) rfl) (by rfl) (e.free "len" (by decide)) boot_len (pa_cons (pv 4) pa_nil)))
      (pss_one (ps_ret (pe_op op_cat (pe_op op_cat (pe_slice (sll_of (K := K) rfl) (pv 0) po_none (po_some (pv 5))) (pe_lst (pa_cons (pv 1) pa_nil))) (pe_slice (sll_of (K := K) rfl) (pv 0) (po_some (pv 5)) po_none)))))), fun F0 σ Q st q => ?_⟩
  have st : Ok K ⟨F0, H, F0⟩ F0 H σ [Vl rows, Vl row, Vl column, Vl descending, .any, .any, .any] := st
  obtain ⟨h1, h2, h3, h4⟩ := hp
  refine q_asg st (st.at ((en_lc st.c (ei_list (st.c.v 0 rfl)) ?_ (fun y F1 σ1 hy c => (et_B (ev_call3 (ev_ix (x := (R.at0 y column)) (c.v 6 rfl) (c.v 2 rfl) ?_) (ev_ix (x := (R.at0 row column)) (c.v 1 rfl) (c.v 2 rfl) ?_) (c.v 3 rfl) ?_))) (fun y F1 σ1 hy hc c => (c.v 6 rfl)))).ev) fun F H σ st => ?_
  · omega
  · exact atC h2 (h4 y hy)
  · exact atC h2 h3
  · trivial
  have st : Ok K _ F H σ [Vl rows, Vl row, Vl column, Vl descending, Vl (((rows.filter fun other => R.staysAhead (R.at0 other column) (R.at0 row column) descending)).map fun y => y), .any, .any] := st
  rw [List.map_id'] at st
  refine q_asg st (st.at (ev_len (st.c.v 4 rfl))) fun F H σ st => ?_
  have st : Ok K _ F H σ [Vl rows, Vl row, Vl column, Vl descending, Vl (R.aheadOf rows row column descending), Vl ((R.aheadOf rows row column descending).length : Int), .any] := st
  refine s_retF st (en_cat (en_cat (en_cut (st.c.v 0 rfl) eo_none (eo_some (st.c.v 5 rfl))).ev (en_one (st.c.v 1 rfl)).ev ?_).ev (en_cut (st.c.v 0 rfl) (eo_some (st.c.v 5 rfl)) eo_none).ev ?_).ev ?_ q
  · rw [cut_to (Int.natCast_nonneg _), List.length_take, List.length_singleton]
    omega
  · rw [cut_to (Int.natCast_nonneg _), cut_from (Int.natCast_nonneg _), List.length_append, List.length_take, List.length_singleton, List.length_drop]
    omega
  · rw [cut_to (Int.natCast_nonneg _), cut_from (Int.natCast_nonneg _)]
    rfl
/-! ### sorted_cells -/
abbrev st56 : Stmt := top 56
abbrev N56 : List Str := ["columns", "cells", "column", "descending", "rows", "at", "flat", "row"]
theorem sc56 : FnScope N56 ["columns", "cells", "column", "descending"] (defScope st56) := ⟨rfl, rfl, rfl, by decide +kernel, rfl, by decide +kernel, by decide +kernel⟩
def p_sorted_cells : Int → (List R.Cell) → Int → Int → Prop := fun n cs k _ => R.tabOk n cs ∧ 0 ≤ k ∧ k < n
set_option maxHeartbeats 4000000 in
theorem ok_sorted_cells (e : Env K mg) : FnAt P w K mg "sorted_cells" 3 ["columns", "cells", "column", "descending"] (Sp4 K p_sorted_cells (R.sortedCells)) := by
  refine fn4 (e.defs 51 56 "sorted_cells" rfl) sc56 rfl (fun _ _ _ _ _ _ us hu => match us, hu with | [_, _, _, _], _ => rfl) fun base f columns cells column descending hp cdv A outer s H E hr => ⟨_,
    (pss_cons (ps_set (i := 4) sc56.nd rfl (by first | exact .inl rfl | exact .inr rfl) (pe_lst pa_nil))
      (pss_cons (ps_for PassesOwn.never rfl (pi_range2 (by rfl) (e.free "range" (by decide)) (pa_cons pe_int (pa_cons (pe_fn (ok_row_total e) (hr.mono (by decide)) (by rfl) (pa_cons (pv 0) (pa_cons (pv 1) pa_nil)) pass0) pa_nil))) (pg_name (i := 5) sc56.nd rfl (by first | exact .inl rfl | exact .inr rfl)) (pss_one (ps_set (i := 4) sc56.nd rfl (by first | exact .inl rfl | exact .inr rfl) (pe_fn (ok_inserted e) (hr.mono (by decide)) (by rfl) (pa_cons (pv 4) (pa_cons (pe_fn (ok_row_cells e) (hr.mono (by decide)) (by rfl) (pa_cons (pv 0) (pa_cons (pv 1) (pa_cons (pv 5) pa_nil))) pass0) (pa_cons (pv 2) (pa_cons (pv 3) pa_nil)))) pass0))))
      (pss_cons (ps_set (i := 6) sc56.nd rfl (by first | exact .inl rfl | exact .inr rfl) (pe_fn (ok_row_cells e) (hr.mono (by decide)) (by rfl) (pa_cons (pv 0) (pa_cons (pv 1) (pa_cons pe_int pa_nil))) pass0))
      (pss_cons (ps_for PassesOwn.never rfl (pi_list (pv 4)) (pg_name (i := 7) sc56.nd rfl (by first | exact .inl rfl | exact .inr rfl)) (pss_one (ps_expr (pe_bm PySem.F.plainAttrs_list PySem.F.slot_list_extend PySem.F.type_list_extend mt_extend (pv 6) (pa_cons (pv 7) pa_nil)))))
      (pss_one (ps_ret (pv 6))))))), fun F0 σ Q st q => ?_⟩
  have st : Ok K ⟨F0, H, F0⟩ F0 H σ [Vl columns, Vl cells, Vl column, Vl descending, .any, .any, .any, .any] := st
  obtain ⟨h1, h2, h3⟩ := hp
  obtain ⟨t1, t2, t3⟩ := R.rowTotal_bounds h1
  have c1 := h1.1
  have c2 := h1.2.1
  have c3 := h1.2.2.2.1
  refine q_asg st (st.at ((en_nil (α := (List R.Cell)))).ev) fun F H σ st => ?_
  refine q_for st (ei_rng2 ev_int (ev_call2 (st.c.v 0 rfl) (st.c.v 1 rfl) ?_) ?_ ?_) (fun y => g_name) (fun i Γ => ∃ s t u, Γ = [Vl columns, Vl cells, Vl column, Vl descending, Vl ((List.range i).foldl (R.sortStep columns cells column descending) []), s, t, u]) ⟨_, _, _, rfl⟩ ?_ ?_
  · exact ⟨by omega, by omega⟩
  · omega
  · omega
  · rintro G i y F H σ Γ hb ⟨s, t, u, rfl⟩ st
    obtain ⟨hi, rfl⟩ : i < (R.rowTotal columns cells - 1).toNat ∧ 1 + (i : Int) = y := by
      obtain ⟨h5, h6⟩ := List.getElem?_eq_some_iff.mp hb
      rw [List.length_map, List.length_range] at h5
      rw [List.getElem_map, List.getElem_range] at h6
      exact ⟨h5, h6⟩
    have st : Ok K _ F H σ [Vl columns, Vl cells, Vl column, Vl descending, Vl ((List.range i).foldl (R.sortStep columns cells column descending) []), Vl (1 + (i : Int)), t, u] := st
    obtain ⟨s1, s2⟩ := R.sortGo_ok h1 h2 h3 column descending i (by omega)
    have hr := R.rowCells_len h1 (i := 1 + (i : Int)) (by omega) (by omega)
    refine s_asg st (st.at (ev_call4 (st.c.v 4 rfl) (en_call3 (st.c.v 0 rfl) (st.c.v 1 rfl) (st.c.v 5 rfl) ?_).ev (st.c.v 2 rfl) (st.c.v 3 rfl) ?_)) fun F H σ st => ⟨_, _, st, ?_⟩
    · exact ⟨by omega, by omega, by omega, by omega⟩
    · exact ⟨by omega, h2, by omega, fun x hx => by have := s2 x hx; omega⟩
    · rw [List.range_succ, List.foldl_append]
      exact ⟨_, _, _, rfl⟩
  rintro F H σ Γ ⟨s, t, u, rfl⟩ st
  rw [List.length_map, List.length_range] at st
  have st : Ok K _ F H σ [Vl columns, Vl cells, Vl column, Vl descending, Vl (R.sortedRowsOf columns cells column descending), s, t, u] := st
  obtain ⟨s1, s2⟩ := R.sortGo_ok h1 h2 h3 column descending (R.rowTotal columns cells - 1).toNat (by omega)
  have s1 : (R.sortedRowsOf columns cells column descending).length ≤ 25 := by
    show List.length (List.foldl _ _ _) ≤ _
    omega
  have s2 : ∀ x ∈ R.sortedRowsOf columns cells column descending, (x.length : Int) = columns := s2
  have e0 : R.sortedCells columns cells column descending = R.rowCells columns cells 0 ++ (R.sortedRowsOf columns cells column descending).flatten := rfl
  generalize R.sortedRowsOf columns cells column descending = rows at st s1 s2 e0
  refine q_newM st (en_call3 (st.c.v 0 rfl) (st.c.v 1 rfl) ev_int ?_) fun pl F H σ st => ?_
  · exact ⟨by omega, by omega, by decide, by decide⟩
  refine q_for st (ei_list (st.c.v 4 rfl)) (fun y => g_name) (fun i Γ => ∃ pl s t, Γ = [Vl columns, Vl cells, Vl column, Vl descending, Vl rows, s, Mu pl (R.rowCells columns cells 0 ++ (rows.take i).flatten), t]) ⟨pl, _, _, by rw [List.take_zero, List.flatten_nil, List.append_nil]; rfl⟩ ?_ ?_
  · rintro G i row F H σ Γ hb ⟨pl, s, t, rfl⟩ st
    have st : Ok K _ F H σ [Vl columns, Vl cells, Vl column, Vl descending, Vl rows, s, Mu pl (R.rowCells columns cells 0 ++ (rows.take i).flatten), Vl row] := st
    have hr := s2 row (List.mem_of_getElem? hb)
    have hf : (rows.take i).flatten.length ≤ 25 * 8 := by
      have h5 := R.flatMap_len (f := fun (x : List R.Cell) => x) (m := 8) (l := rows.take i) fun x hx => by have := s2 x (List.mem_of_mem_take hx); omega
      have h6 : (rows.take i).length ≤ 25 := by rw [List.length_take]; omega
      rw [show (rows.take i).flatten = (rows.take i).flatMap fun x => x by rw [List.flatMap_def, List.map_id']]
      omega
    have h0 := R.rowCells_le (n := columns) (i := 0) (cs := cells)
    refine s_ext st rfl (st.at (st.c.v 7 rfl)) ?_ fun F H st => ⟨_, _, st, ?_⟩
    · rw [List.length_append]
      omega
    · rw [List.take_add_one, hb, List.flatten_append, ← List.append_assoc]
      exact ⟨pl, s, Vl row, by simp⟩
  · rintro F H σ Γ ⟨pl, s, t, rfl⟩ st
    rw [List.take_length] at st
    obtain ⟨F, st⟩ := st.freeze 6 rfl
    exact s_retF st (st.c.v 6 rfl) e0.symm q
/-! ### chosen_cells -/
abbrev st57 : Stmt := top 57
abbrev N57 : List Str := ["columns", "cells", "chosen", "flat", "at", "row", "column"]
theorem sc57 : FnScope N57 ["columns", "cells", "chosen"] (defScope st57) := ⟨rfl, rfl, rfl, by decide +kernel, rfl, by decide +kernel, by decide +kernel⟩
def p_chosen_cells : Int → (List R.Cell) → (List Int) → Prop := fun n cs ks => R.tabOk n cs ∧ ks.length ≤ 8 ∧ ∀ k ∈ ks, 0 ≤ k ∧ k < n
set_option maxHeartbeats 4000000 in
theorem ok_chosen_cells (e : Env K mg) : FnAt P w K mg "chosen_cells" 2 ["columns", "cells", "chosen"] (Sp3 K p_chosen_cells (R.chosenCells)) := by
  refine fn3 (e.defs 52 57 "chosen_cells" rfl) sc57 rfl (fun _ _ _ _ _ _ us hu => match us, hu with | [_, _, _], _ => rfl) fun base f columns cells chosen hp cdv A outer s H E hr => ⟨_,
    (pss_cons (ps_set (i := 3) sc57.nd rfl (by first | exact .inl rfl | exact .inr rfl) (pe_lst pa_nil))
      (pss_cons (ps_for PassesOwn.never rfl (pi_range1 (by rfl) (e.free "range" (by decide)) (pa_cons (pe_fn (ok_row_total e) (hr.mono (by decide)) (by rfl) (pa_cons (pv 0) (pa_cons (pv 1) pa_nil)) pass0) pa_nil)) (pg_name (i := 4) sc57.nd rfl (by first | exact .inl rfl | exact .inr rfl)) (pss_cons (ps_set (i := 5) sc57.nd rfl (by first | exact .inl rfl | exact .inr rfl) (pe_fn (ok_row_cells e) (hr.mono (by decide)) (by rfl) (pa_cons (pv 0) (pa_cons (pv 1) (pa_cons (pv 4) pa_nil))) pass0))
      (pss_one (ps_expr (pe_bm PySem.F.plainAttrs_list PySem.F.slot_list_extend PySem.F.type_list_extend mt_extend (pv 3) (pa_cons (pe_lc (own := [("column", 6)]) (g := gName 6) rfl sc57.nd (pi_list (pv 2)) (blkOk_by (own := [("column", 6)]) (N := N57) (sc := defScope st57) (by decide +kernel)) (fun _ _ _ _ _ => (pg_name (i := 6) sc57.nd rfl (by first | exact .inl rfl | exact .inr rfl))) (fun _ _ _ _ _ => pts_nil) (fun _ _ _ _ _ => (pe_ix (ixl_of (K := K) rfl) (pv 5) (pv 6) (fun _ _ => rfl)))) pa_nil))))))
      (pss_one (ps_ret (pv 3))))), fun F0 σ Q st q => ?_⟩
  have st : Ok K ⟨F0, H, F0⟩ F0 H σ [Vl columns, Vl cells, Vl chosen, .any, .any, .any, .any] := st
  obtain ⟨h1, h2, h3⟩ := hp
  obtain ⟨t1, t2, t3⟩ := R.rowTotal_bounds h1
  have c1 := h1.1
  have c2 := h1.2.1
  refine q_newM st (en_nil (α := R.Cell)) fun pl F H σ st => ?_
  refine q_for st (ei_rng1 (ev_call2 (st.c.v 0 rfl) (st.c.v 1 rfl) ?_) ?_) (fun y => g_name) (fun i Γ => ∃ pl s t, Γ = [Vl columns, Vl cells, Vl chosen, Mu pl ((List.range i).flatMap fun (i : Nat) => chosen.map fun c => R.at0 (R.rowCells columns cells i) c), s, t, .any]) ⟨pl, _, _, rfl⟩ ?_ ?_
  · exact ⟨by omega, by omega⟩
  · omega
  · rintro G i y F H σ Γ hb ⟨pl, s, t, rfl⟩ st
    obtain ⟨hi, rfl⟩ : i < (R.rowTotal columns cells).toNat ∧ (i : Int) = y := by
      obtain ⟨h5, h6⟩ := List.getElem?_eq_some_iff.mp hb
      rw [List.length_map, List.length_range] at h5
      rw [List.getElem_map, List.getElem_range] at h6
      exact ⟨h5, h6⟩
    have st : Ok K _ F H σ [Vl columns, Vl cells, Vl chosen, Mu pl ((List.range i).flatMap fun (i : Nat) => chosen.map fun c => R.at0 (R.rowCells columns cells i) c), Vl (i : Int), t, .any] := st
    have hr := R.rowCells_len h1 (i := (i : Int)) (by omega) (by omega)
    have hl := R.flatMap_len (f := fun (i : Nat) => chosen.map fun c => R.at0 (R.rowCells columns cells i) c) (m := 8) (l := List.range i) fun x hx => by rw [List.length_map]; omega
    rw [List.length_range] at hl
    refine q_asg st (st.at (en_call3 (st.c.v 0 rfl) (st.c.v 1 rfl) (st.c.v 4 rfl) ?_).ev) fun F H σ st => ?_
    · exact ⟨by omega, by omega, by omega, by omega⟩
    refine s_ext st rfl (st.at ((en_map st.c (ei_list (st.c.v 2 rfl)) ?_ (fun y F1 σ1 hy c => (ev_ix (x := (R.at0 (R.rowCells columns cells i) y)) (c.v 5 rfl) (c.v 6 rfl) ?_)))).ev) ?_ fun F H st => ⟨_, _, st, ?_⟩
    · omega
    · have := h3 y hy
      exact atC this.1 (by omega)
    · rw [List.length_map]
      omega
    · rw [List.range_succ, List.flatMap_append]
      exact ⟨pl, Vl (i : Int), Vl (R.rowCells columns cells i), by simp⟩
  · rintro F H σ Γ ⟨pl, s, t, rfl⟩ st
    rw [List.length_map, List.length_range] at st
    obtain ⟨F, st⟩ := st.freeze 3 rfl
    exact s_retF st (st.c.v 3 rfl) rfl q
end
end Wk
end
section
set_option Elab.async false
set_option linter.all false
set_option maxRecDepth 100000
set_option maxHeartbeats 4000000
/-! The walk, printed by wip/g/gen.py. -/
namespace Wk
open PySem PySem.Spec PyProof.Rows L2 Ty
open Rep (rep)
section
variable {w : World} {K : Fg} {mg : Str → Option Value}
/-! ### heading_lines -/
abbrev st59 : Stmt := top 59
abbrev N59 : List Str := ["level", "text", "width", "line"]
theorem sc59 : FnScope N59 ["level", "text", "width"] (defScope st59) := ⟨rfl, rfl, rfl, by decide +kernel, rfl, by decide +kernel, by decide +kernel⟩
def p_heading_lines : Int → (List Int) → Int → Prop := fun _ t w => t.length ≤ 200 ∧ 20 ≤ w ∧ w ≤ 1000
set_option maxHeartbeats 4000000 in
theorem ok_heading_lines (e : Env K mg) : FnAt P w K mg "heading_lines" 2 ["level", "text", "width"] (Sp3 K p_heading_lines (R.headingLines)) := by
  refine fn3 (e.defs 53 59 "heading_lines" rfl) sc59 rfl (fun _ _ _ _ _ _ us hu => match us, hu with | [_, _, _], _ => rfl) fun base f level text width hp cdv A outer s H E hr => ⟨_,
    (pss_cons (ps_if (pt_cmpR op_eq (pv 0) pe_int (nomark _)) (pss_one (ps_ret (pe_lst (pa_cons (pe_fn (ok_shortened e) (hr.mono (by decide)) (by rfl) (pa_cons (pe_op op_cat (pe_fn (ok_signs e) (hr.mono (by decide)) (by rfl) (pa_cons pe_str pa_nil) pass0) (pe_fn (ok_single_line e) (hr.mono (by decide)) (by rfl) (pa_cons (pv 1) pa_nil) pass0)) (pa_cons (pv 2) pa_nil)) pass0) pa_nil)))) pss_nil)
      (pss_cons (ps_set (i := 3) sc59.nd rfl (by first | exact .inl rfl | exact .inr rfl) (pe_fn (ok_shortened e) (hr.mono (by decide)) (by rfl) (pa_cons (pe_fn (ok_single_line e) (hr.mono (by decide)) (by rfl) (pa_cons (pv 1) pa_nil) pass0) (pa_cons (pv 2) pa_nil)) pass0))
      (pss_cons (ps_if (pt_cmpR op_eq (pv 0) pe_int (nomark _)) (pss_one (ps_ret (pe_lst (pa_cons (pv 3) (pa_cons (pe_fn (ok_repeated e) (hr.mono (by decide)) (by rfl) (pa_cons pe_int (pa_cons (pe_callB (len_of (K := K) rfl) (by rfl) (e.free "len" (by decide)) boot_len (pa_cons (pv 3) pa_nil)) pa_nil)) pass0) pa_nil))))) pss_nil)
      (pss_one (ps_ret (pe_lst (pa_cons (pv 3) (pa_cons (pe_fn (ok_repeated e) (hr.mono (by decide)) (by rfl) (pa_cons pe_int (pa_cons (pe_callB (len_of (K := K) rfl) (by rfl) (e.free "len" (by decide)) boot_len (pa_cons (pv 3) pa_nil)) pa_nil)) pass0) pa_nil)))))))), fun F0 σ Q st q => ?_⟩
  have st : Ok K ⟨F0, H, F0⟩ F0 H σ [Vl level, Vl text, Vl width, .any] := st
  obtain ⟨h1, h2, h3⟩ := hp
  have sl := R.singleLine_len text
  refine q_if st (et_test (ev_eq (st.h.v 0 rfl) ev_int)) (fun hb F H st => ?_) (fun hb F H st => ?_)
  · refine s_retF st (en_one (ev_call2 (en_cat (ev_call1 ev_str ?_) (ev_call1 (st.c.v 1 rfl) ?_) ?_).ev (st.c.v 2 rfl) ?_)).ev ?_ q
    · exact (by decide : (2 : Nat) ≤ 1000000)
    · show _ ≤ 1000000; omega
    · show 2 + _ ≤ _; omega
    · refine ⟨?_, by omega, by omega⟩
      rw [List.length_append]
      show 2 + _ ≤ _
      omega
    · unfold R.headingLines
      rw [if_pos (of_decide_eq_true hb), ← codesOf]
  have hb3 := of_decide_eq_false hb
  have ss := R.shortened_len (R.singleLine text) width (by omega)
  refine q_asg st (st.at (ev_call2 (ev_call1 (st.c.v 1 rfl) ?_) (st.c.v 2 rfl) ?_)) fun F H σ st => ?_
  · show _ ≤ 1000000; omega
  · exact ⟨by omega, by omega, by omega⟩
  have st : Ok K _ F H σ [Vl level, Vl text, Vl width, Vl (R.shortened (R.singleLine text) width)] := st
  refine q_if st (et_test (ev_eq (st.h.v 0 rfl) ev_int)) (fun hb F H st => ?_) (fun hb F H st => ?_)
  · refine s_retF st (en_two (st.c.v 3 rfl) (en_call2 ev_int (ev_len (st.c.v 3 rfl)) ?_).ev).ev ?_ q
    · exact ⟨by omega, by omega⟩
    · unfold R.headingLines
      rw [if_neg hb3, if_pos (of_decide_eq_true hb)]
  · refine s_retF st (en_two (st.c.v 3 rfl) (en_call2 ev_int (ev_len (st.c.v 3 rfl)) ?_).ev).ev ?_ q
    · exact ⟨by omega, by omega⟩
    · unfold R.headingLines
      rw [if_neg hb3, if_neg (of_decide_eq_false hb)]
/-! ### check_lines -/
abbrev st60 : Stmt := top 60
abbrev N60 : List Str := ["passed", "text", "width", "lead"]
theorem sc60 : FnScope N60 ["passed", "text", "width"] (defScope st60) := ⟨rfl, rfl, rfl, by decide +kernel, rfl, by decide +kernel, by decide +kernel⟩
def p_check_lines : Int → (List Int) → Int → Prop := fun _ t w => t.length ≤ 200 ∧ 20 ≤ w ∧ w ≤ 1000
set_option maxHeartbeats 4000000 in
theorem ok_check_lines (e : Env K mg) : FnAt P w K mg "check_lines" 2 ["passed", "text", "width"] (Sp3 K p_check_lines (R.checkLines)) := by
  refine fn3 (e.defs 54 60 "check_lines" rfl) sc60 rfl (fun _ _ _ _ _ _ us hu => match us, hu with | [_, _, _], _ => rfl) fun base f passed text width hp cdv A outer s H E hr => ⟨_,
    (pss_cons (ps_set (i := 3) sc60.nd rfl (by first | exact .inl rfl | exact .inr rfl) (pe_ifExp (pt_cmpR op_eq (pv 0) pe_int (nomark _)) (pe_fn (ok_signs e) (hr.mono (by decide)) (by rfl) (pa_cons pe_str pa_nil) pass0) (pe_fn (ok_signs e) (hr.mono (by decide)) (by rfl) (pa_cons pe_str pa_nil) pass0)))
      (pss_one (ps_ret (pe_lst (pa_cons (pe_fn (ok_shortened e) (hr.mono (by decide)) (by rfl) (pa_cons (pe_op op_cat (pv 3) (pe_fn (ok_single_line e) (hr.mono (by decide)) (by rfl) (pa_cons (pv 1) pa_nil) pass0)) (pa_cons (pv 2) pa_nil)) pass0) pa_nil))))), fun F0 σ Q st q => ?_⟩
  have st : Ok K ⟨F0, H, F0⟩ F0 H σ [Vl passed, Vl text, Vl width, .any] := st
  obtain ⟨h1, h2, h3⟩ := hp
  have sl := R.singleLine_len text
  have e0 : (if decide (passed = 1) = true then codes (Str.ofString "[ok] ") else codes (Str.ofString "[no] ")) = (if passed = 1 then R.signs "[ok] " else R.signs "[no] ") := by
    rw [codesOf, codesOf]
    by_cases h : passed = 1
    · rw [if_pos (decide_eq_true h), if_pos h]
    · rw [if_neg (by rw [decide_eq_false h]; decide), if_neg h]
  have l0 : (if passed = 1 then R.signs "[ok] " else R.signs "[no] ").length = 5 := by
    split
    · rfl
    · rfl
  refine q_asg st (st.at (ev_ite (et_test (ev_eq (st.c.v 0 rfl) ev_int)) (fun hs => (ev_call1 ev_str ?_)) (fun hs => (ev_call1 ev_str ?_)))) fun F H σ st => ?_
  · exact (by decide : (5 : Nat) ≤ 1000000)
  · exact (by decide : (5 : Nat) ≤ 1000000)
  rw [show (Str.ofString "[ok] ") = "[ok] " from rfl, show (Str.ofString "[no] ") = "[no] " from rfl] at e0
  rw [e0] at st
  have st : Ok K _ F H σ [Vl passed, Vl text, Vl width, Vl (if passed = 1 then R.signs "[ok] " else R.signs "[no] ")] := st
  refine s_retF st (en_one (ev_call2 (en_cat (st.c.v 3 rfl) (ev_call1 (st.c.v 1 rfl) ?_) ?_).ev (st.c.v 2 rfl) ?_)).ev rfl q
  · show _ ≤ 1000000; omega
  · rw [l0, sl]; omega
  · refine ⟨?_, by omega, by omega⟩
    rw [List.length_append, l0, sl]
    omega
/-! ### words_of -/
abbrev st61 : Stmt := top 61
abbrev N61 : List Str := ["part", "width", "words", "word", "at"]
theorem sc61 : FnScope N61 ["part", "width"] (defScope st61) := ⟨rfl, rfl, rfl, by decide +kernel, rfl, by decide +kernel, by decide +kernel⟩
def p_words_of : (List Int) → Int → Prop := fun p w => p.length ≤ 1000 ∧ 1 ≤ w ∧ w ≤ 1000
set_option maxHeartbeats 4000000 in
theorem ok_words_of (e : Env K mg) : FnAt P w K mg "words_of" 2 ["part", "width"] (Sp2 K p_words_of (R.wordsOf)) := by
  refine fn2 (e.defs 55 61 "words_of" rfl) sc61 rfl (fun _ _ _ _ _ _ us hu => match us, hu with | [_, _], _ => rfl) fun base f part width hp cdv A outer s H E hr => ⟨_,
    (pss_cons (ps_set (i := 2) sc61.nd rfl (by first | exact .inl rfl | exact .inr rfl) (pe_lst pa_nil))
      (pss_cons (ps_for PassesOwn.never rfl (pi_list (pe_fn (ok_parts e) (hr.mono (by decide)) (by rfl) (pa_cons (pv 0) (pa_cons pe_int pa_nil)) pass0)) (pg_name (i := 3) sc61.nd rfl (by first | exact .inl rfl | exact .inr rfl)) (pss_one (ps_for PassesOwn.never rfl (pi_range3 (by rfl) (e.free "range" (by decide)) (pa_cons pe_int (pa_cons (pe_callB (len_of (K := K) rfl) (by rfl) (e.free "len" (by decide)) boot_len (pa_cons (pv 3) pa_nil)) (pa_cons (pv 1) pa_nil)))) (pg_name (i := 4) sc61.nd rfl (by first | exact .inl rfl | exact .inr rfl)) (pss_one (ps_expr (pe_bm PySem.F.plainAttrs_list PySem.F.slot_list_append PySem.F.type_list_append mt_append (pv 2) (pa_cons (pe_slice (sll_of (K := K) rfl) (pv 3) (po_some (pv 4)) (po_some (pe_op op_add (pv 4) (pv 1)))) pa_nil)))))))
      (pss_one (ps_ret (pv 2))))), fun F0 σ Q st q => ?_⟩
  have st : Ok K ⟨F0, H, F0⟩ F0 H σ [Vl part, Vl width, .any, .any, .any] := st
  obtain ⟨h1, h2, h3⟩ := hp
  obtain ⟨k, rfl⟩ : ∃ k : Nat, width = (k : Int) := ⟨width.toNat, by omega⟩
  have hk : 0 < k := by omega
  have hl := R.wordsOf_len part k hk
  refine q_newM st (en_nil (α := (List Int))) fun pl F H σ st => ?_
  refine q_for st (ei_list (ev_call2 (st.c.v 0 rfl) ev_int ?_)) (fun y => g_name) (fun i Γ => ∃ pl s t, Γ = [Vl part, Vl (k : Int), Mu pl (((R.parts part 32).take i).flatMap fun w => R.chunks w (k : Int)), s, t]) ⟨pl, _, _, rfl⟩ ?_ ?_
  · show _ ≤ 1000000; omega
  · rintro G i word F H σ Γ hb ⟨pl, s, t, rfl⟩ st
    have hw := R.parts_mem (List.mem_of_getElem? hb)
    have ht := R.flatMap_take_le (fun w => R.chunks w (k : Int)) (R.parts part 32) i
    have ht : (((R.parts part 32).take i).flatMap fun w => R.chunks w (k : Int)).length ≤ 1000 := Nat.le_trans ht (Nat.le_trans hl h1)
    have eq0 : ((R.parts part 32).take (i + 1)).flatMap (fun w => R.chunks w (k : Int)) = (((R.parts part 32).take i).flatMap fun w => R.chunks w (k : Int)) ++ R.chunks word (k : Int) := by
      rw [List.take_add_one, hb, List.flatMap_append]
      simp
    have st : Ok K _ F H σ [Vl part, Vl (k : Int), Mu pl (((R.parts part 32).take i).flatMap fun w => R.chunks w (k : Int)), Vl word, t] := st
    generalize (((R.parts part 32).take i).flatMap fun w => R.chunks w (k : Int)) = done at st ht eq0
    refine s_for st (ei_rng3 (k := ((word.length + (k - 1)) / k)) ev_int (ev_len (st.c.v 3 rfl)) (st.c.v 1 rfl) ?_) (fun y => g_name) (fun j Γ => ∃ pl t, Γ = [Vl part, Vl (k : Int), Mu pl (done ++ (List.range j).map fun (a : Nat) => (word.drop (a * k)).take k), Vl word, t]) ⟨pl, _, by rw [List.range_zero, List.map_nil, List.append_nil]⟩ ?_ ?_
    · exact rg_up (by omega) hk (by omega)
    · rintro G j y F H σ Γ hc ⟨pl, t, rfl⟩ st
      obtain ⟨hj, rfl⟩ : j < (word.length + (k - 1)) / k ∧ (0 : Int) + (j : Int) * (k : Int) = y := by
        obtain ⟨h5, h6⟩ := List.getElem?_eq_some_iff.mp hc
        rw [List.length_map, List.length_range] at h5
        rw [List.getElem_map, List.getElem_range] at h6
        exact ⟨h5, h6⟩
      have hlt : (word.length + (k - 1)) / k ≤ word.length := by
        have h := R.chunks_len word k hk
        unfold R.chunks at h
        rw [List.length_map, List.length_range, Int.toNat_natCast] at h
        exact h
      have ec : (0 : Int) + (j : Int) * (k : Int) = ((j * k : Nat) : Int) := by rw [Int.natCast_mul]; omega
      have st : Ok K _ F H σ [Vl part, Vl (k : Int), Mu pl (done ++ (List.range j).map fun (a : Nat) => (word.drop (a * k)).take k), Vl word, Vl ((0 : Int) + (j : Int) * (k : Int))] := st
      rw [ec] at st
      have ecut : cut word (some ((j * k : Nat) : Int)) (some (((j * k : Nat) : Int) + (k : Int))) = (word.drop (j * k)).take k := by
        rw [cut_mid (by omega) (by omega), show (((j * k : Nat) : Int) + (k : Int)).toNat - ((j * k : Nat) : Int).toNat = k by omega, Int.toNat_natCast]
      refine s_app st rfl (st.at (((en_cut (st.c.v 3 rfl) (eo_some (st.c.v 4 rfl)) (eo_some (ev_add (st.c.v 4 rfl) (st.c.v 1 rfl))))).cast ecut).ev) ?_ fun F H st => ⟨_, _, st, ?_⟩
      · rw [List.length_append, List.length_map, List.length_range]
        omega
      · rw [List.range_succ, List.map_append, ← List.append_assoc]
        exact ⟨pl, _, rfl⟩
    · rintro F H σ Γ ⟨pl, t, rfl⟩ st
      rw [List.length_map, List.length_range] at st
      refine s_next ⟨F, _, st, pl, Vl word, t, ?_⟩
      rw [eq0]
      unfold R.chunks
      rw [Int.toNat_natCast]
  · rintro F H σ Γ ⟨pl, s, t, rfl⟩ st
    rw [List.take_length] at st
    obtain ⟨F, st⟩ := st.freeze 2 rfl
    exact s_retF st (st.c.v 2 rfl) rfl q
/-! ### wrapped -/
abbrev st62 : Stmt := top 62
abbrev N62 : List Str := ["words", "width", "lines", "line", "word"]
theorem sc62 : FnScope N62 ["words", "width"] (defScope st62) := ⟨rfl, rfl, rfl, by decide +kernel, rfl, by decide +kernel, by decide +kernel⟩
def p_wrapped : (List (List Int)) → Int → Prop := fun ws w => ws.length ≤ 1000000 ∧ (∀ x ∈ ws, x.length ≤ 1000) ∧ w ≤ 1000
set_option maxHeartbeats 4000000 in
theorem ok_wrapped (e : Env K mg) : FnAt P w K mg "wrapped" 1 ["words", "width"] (Sp2 K p_wrapped (R.wrapped)) := by
  refine fn2 (e.defs 56 62 "wrapped" rfl) sc62 rfl (fun _ _ _ _ _ _ us hu => match us, hu with | [_, _], _ => rfl) fun base f words width hp cdv A outer s H E hr => ⟨_,
    (pss_cons (ps_if (pt_cmpR op_eq (pe_callB (len_of (K := K) rfl) (by rfl) (e.free "len" (by decide)) boot_len (pa_cons (pv 0) pa_nil)) pe_int (nomark _)) (pss_one (ps_ret (pe_lst (pa_cons (pe_lst pa_nil) pa_nil)))) pss_nil)
      (pss_cons (ps_set (i := 2) sc62.nd rfl (by first | exact .inl rfl | exact .inr rfl) (pe_lst pa_nil))
      (pss_cons (ps_set (i := 3) sc62.nd rfl (by first | exact .inl rfl | exact .inr rfl) (pe_ix (ixl_of (K := K) rfl) (pv 0) pe_int (fun _ _ => rfl)))
      (pss_cons (ps_for PassesOwn.never rfl (pi_list (pe_slice (sll_of (K := K) rfl) (pv 0) (po_some pe_int) po_none)) (pg_name (i := 4) sc62.nd rfl (by first | exact .inl rfl | exact .inr rfl)) (pss_one (ps_if (pt_cmpR op_le (pe_op op_add (pe_op op_add (pe_callB (len_of (K := K) rfl) (by rfl) (e.free "len" (by decide)) boot_len (pa_cons (pv 3) pa_nil)) pe_int) (pe_callB (len_of (K := K) rfl) (by rfl) (e.free "len" (by decide)) boot_len (pa_cons (pv 4) pa_nil))) (pv 1) (nomark _)) (pss_one (ps_set (i := 3) sc62.nd rfl (by first | exact .inl rfl | exact .inr rfl) (pe_op op_cat (pe_op op_cat (pv 3) (pe_lst (pa_cons pe_int pa_nil))) (pv 4)))) (pss_cons (ps_expr (pe_bm PySem.F.plainAttrs_list PySem.F.slot_list_append PySem.F.type_list_append mt_append (pv 2) (pa_cons (pv 3) pa_nil)))
      (pss_one (ps_set (i := 3) sc62.nd rfl (by first | exact .inl rfl | exact .inr rfl) (pv 4)))))))
      (pss_one (ps_ret (pe_op op_cat (pv 2) (pe_lst (pa_cons (pv 3) pa_nil))))))))), fun F0 σ Q st q => ?_⟩
  have st : Ok K ⟨F0, H, F0⟩ F0 H σ [Vl words, Vl width, .any, .any, .any] := st
  obtain ⟨h1, h2, h3⟩ := hp
  refine q_if st (et_test (ev_eq (ev_len (st.h.v 0 rfl)) ev_int)) (fun hb F H st => ?_) (fun hb F H st => ?_)
  · refine s_retF st (en_one (en_nil (α := Int)).ev).ev ?_ q
    have e : words = [] := List.length_eq_zero_iff.mp (by have := of_decide_eq_true hb; omega)
    rw [e]
    rfl
  cases words with
  | nil => exact absurd (show ((0 : Nat) : Int) = 0 from rfl) (of_decide_eq_false hb)
  | cons w0 r =>
    refine q_newM st (en_nil (α := (List Int))) fun pl F H σ st => ?_
    refine q_asg st (st.at (ev_ix (x := (w0)) (st.c.v 0 rfl) ev_int ?_)) fun F H σ st => ?_
    · exact atI_nat' (by decide) rfl
    have st : Ok K _ F H σ [Vl (w0 :: r), Vl width, Mu pl ([] : List R.B), Vl w0, .any] := st
    have ecut : cut (w0 :: r) (some 1) none = r := by
      rw [cut_from (by decide)]
      rfl
    have hr : r.length ≤ 1000000 := by
      rw [List.length_cons] at h1
      omega
    refine q_for st (ei_list ((en_cut (st.c.v 0 rfl) (eo_some ev_int) eo_none).cast ecut).ev) (fun y => g_name) (fun i Γ => ∃ pl s, Γ = [Vl (w0 :: r), Vl width, Mu pl ((r.take i).foldl (R.wrapStep width) ([], w0)).1, Vl ((r.take i).foldl (R.wrapStep width) ([], w0)).2, s]) ⟨pl, _, rfl⟩ ?_ ?_
    · rintro G i word F H σ Γ hc ⟨pl, s, rfl⟩ st
      have hw := h2 word (List.mem_cons_of_mem _ (List.mem_of_getElem? hc))
      have hf := R.wrapFold_len width (r.take i) ([], w0)
      have hi : (r.take i).length ≤ 1000000 := by rw [List.length_take]; omega
      have e0 : ([] : R.Lines).length = 0 := rfl
      have step : (r.take (i + 1)).foldl (R.wrapStep width) ([], w0) = R.wrapStep width ((r.take i).foldl (R.wrapStep width) ([], w0)) word := by
        rw [List.take_add_one, hc, List.foldl_append]
        rfl
      simp only [e0] at hf
      generalize (r.take i).foldl (R.wrapStep width) ([], w0) = z at st hf step
      have st : Ok K _ F H σ [Vl (w0 :: r), Vl width, Mu pl z.1, Vl z.2, Vl word] := st
      refine s_if st (et_test (ev_le (ev_add (ev_add (ev_len (st.h.v 3 rfl)) ev_int) (ev_len (st.h.v 4 rfl))) (st.h.v 1 rfl))) (fun hb F H st => ?_) (fun hb F H st => ?_)
      · have hle := of_decide_eq_true hb
        refine s_asg st (st.at (en_cat (en_cat (st.c.v 3 rfl) (en_one ev_int).ev ?_).ev (st.c.v 4 rfl) ?_).ev) fun F H σ st => ⟨_, _, st, ?_⟩
        · rw [List.length_singleton]; omega
        · rw [List.length_append, List.length_singleton]; omega
        · rw [step, show R.wrapStep width z word = (z.1, z.2 ++ [32] ++ word) from if_pos hle]
          exact ⟨pl, _, rfl⟩
      · have hle := of_decide_eq_false hb
        refine q_app st rfl (st.at (st.c.v 3 rfl)) ?_ fun F H st => ?_
        · omega
        refine s_asg st (st.at (st.c.v 4 rfl)) fun F H σ st => ⟨_, _, st, ?_⟩
        rw [step, show R.wrapStep width z word = (z.1 ++ [z.2], word) from if_neg hle]
        exact ⟨pl, _, rfl⟩
    · rintro F H σ Γ ⟨pl, s, rfl⟩ st
      rw [List.take_length] at st
      have hf : ((r.foldl (R.wrapStep width) ([], w0)).1).length ≤ r.length := by
        have z := R.wrapFold_len width r ([], w0)
        have e0 : ([] : R.Lines).length = 0 := rfl
        simp only [e0] at z
        omega
      obtain ⟨F, st⟩ := st.freeze 2 rfl
      refine s_retF st (en_cat (st.c.v 2 rfl) (en_one (st.c.v 3 rfl)).ev ?_).ev rfl q
      exact Nat.le_trans (Nat.add_le_add_right hf 1) (by omega)
/-! ### paragraph_lines -/
abbrev st63 : Stmt := top 63
abbrev N63 : List Str := ["text", "width", "lines", "part"]
theorem sc63 : FnScope N63 ["text", "width"] (defScope st63) := ⟨rfl, rfl, rfl, by decide +kernel, rfl, by decide +kernel, by decide +kernel⟩
def p_paragraph_lines : (List Int) → Int → Prop := fun t w => t.length ≤ 200 ∧ 20 ≤ w ∧ w ≤ 1000
set_option maxHeartbeats 4000000 in
theorem ok_paragraph_lines (e : Env K mg) : FnAt P w K mg "paragraph_lines" 3 ["text", "width"] (Sp2 K p_paragraph_lines (R.paragraphLines)) := by
  refine fn2 (e.defs 57 63 "paragraph_lines" rfl) sc63 rfl (fun _ _ _ _ _ _ us hu => match us, hu with | [_, _], _ => rfl) fun base f text width hp cdv A outer s H E hr => ⟨_,
    (pss_cons (ps_set (i := 2) sc63.nd rfl (by first | exact .inl rfl | exact .inr rfl) (pe_lst pa_nil))
      (pss_cons (ps_for PassesOwn.never rfl (pi_list (pe_fn (ok_parts e) (hr.mono (by decide)) (by rfl) (pa_cons (pv 0) (pa_cons pe_int pa_nil)) pass0)) (pg_name (i := 3) sc63.nd rfl (by first | exact .inl rfl | exact .inr rfl)) (pss_one (ps_expr (pe_bm PySem.F.plainAttrs_list PySem.F.slot_list_extend PySem.F.type_list_extend mt_extend (pv 2) (pa_cons (pe_fn (ok_wrapped e) (hr.mono (by decide)) (by rfl) (pa_cons (pe_fn (ok_words_of e) (hr.mono (by decide)) (by rfl) (pa_cons (pv 3) (pa_cons (pv 1) pa_nil)) pass0) (pa_cons (pv 1) pa_nil)) pass0) pa_nil)))))
      (pss_one (ps_ret (pv 2))))), fun F0 σ Q st q => ?_⟩
  have st : Ok K ⟨F0, H, F0⟩ F0 H σ [Vl text, Vl width, .any, .any] := st
  obtain ⟨h1, h2, h3⟩ := hp
  obtain ⟨k, rfl⟩ : ∃ k : Nat, width = (k : Int) := ⟨width.toNat, by omega⟩
  have hk : 0 < k := by omega
  have hl := R.paragraph_len hk h1
  refine q_newM st (en_nil (α := (List Int))) fun pl F H σ st => ?_
  refine q_for st (ei_list (ev_call2 (st.c.v 0 rfl) ev_int ?_)) (fun y => g_name) (fun i Γ => ∃ pl s, Γ = [Vl text, Vl (k : Int), Mu pl (((R.parts text 10).take i).flatMap fun p => R.wrapped (R.wordsOf p (k : Int)) (k : Int)), s]) ⟨pl, _, rfl⟩ ?_ ?_
  · show _ ≤ 1000000; omega
  · rintro G i part F H σ Γ hb ⟨pl, s, rfl⟩ st
    have hw := R.parts_mem (List.mem_of_getElem? hb)
    have hq := R.wordsOf_len part k hk
    have hz := R.wrapped_len (R.wordsOf part (k : Int)) (k : Int)
    have ht : (((R.parts text 10).take i).flatMap fun p => R.wrapped (R.wordsOf p (k : Int)) (k : Int)).length ≤ 50000 := Nat.le_trans (R.flatMap_take_le (fun p => R.wrapped (R.wordsOf p (k : Int)) (k : Int)) (R.parts text 10) i) hl
    have st : Ok K _ F H σ [Vl text, Vl (k : Int), Mu pl (((R.parts text 10).take i).flatMap fun p => R.wrapped (R.wordsOf p (k : Int)) (k : Int)), Vl part] := st
    refine s_ext st rfl (st.at (ev_call2 (ev_call2 (st.c.v 3 rfl) (st.c.v 1 rfl) ?_) (st.c.v 1 rfl) ?_)) ?_ fun F H st => ⟨_, _, st, ?_⟩
    · exact ⟨by omega, by omega, by omega⟩
    · exact ⟨by omega, fun x hx => Nat.le_trans (R.wordsOf_mem hx) (by omega), by omega⟩
    · omega
    · rw [List.take_add_one, hb, List.flatMap_append]
      exact ⟨pl, Vl part, by simp⟩
  · rintro F H σ Γ ⟨pl, s, rfl⟩ st
    rw [List.take_length] at st
    obtain ⟨F, st⟩ := st.freeze 2 rfl
    exact s_retF st (st.c.v 2 rfl) rfl q
/-! ### item_lines -/
abbrev st64 : Stmt := top 64
abbrev N64 : List Str := ["item", "width", "kind", "number", "things"]
theorem sc64 : FnScope N64 ["item", "width"] (defScope st64) := ⟨rfl, rfl, rfl, by decide +kernel, rfl, by decide +kernel, by decide +kernel⟩
def p_item_lines : R.Item → Int → Prop := fun it w => R.itemOk it ∧ 20 ≤ w ∧ w ≤ 1000
set_option maxHeartbeats 4000000 in
theorem ok_item_lines (e : Env K mg) : FnAt P w K mg "item_lines" 9 ["item", "width"] (Sp2 K p_item_lines (R.itemLines)) := by
  refine fn2 (e.defs 58 64 "item_lines" rfl) sc64 rfl (fun _ _ _ _ _ _ us hu => match us, hu with | [_, _], _ => rfl) fun base f item width hp cdv A outer s H E hr => ⟨_,
    (pss_cons (ps_asg (pv 0) (pg_tup rfl (pgs_cons (pg_name (i := 2) sc64.nd rfl (by first | exact .inl rfl | exact .inr rfl)) (pgs_cons (pg_name (i := 3) sc64.nd rfl (by first | exact .inl rfl | exact .inr rfl)) (pgs_cons (pg_name (i := 4) sc64.nd rfl (by first | exact .inl rfl | exact .inr rfl)) pgs_nil)))))
      (pss_cons (ps_if (pt_cmpR op_eq (pv 2) pe_int (nomark _)) (pss_one (ps_ret (pe_fn (ok_heading_lines e) (hr.mono (by decide)) (by rfl) (pa_cons (pv 3) (pa_cons (pv 4) (pa_cons (pv 1) pa_nil))) pass0))) pss_nil)
      (pss_cons (ps_if (pt_cmpR op_eq (pv 2) pe_int (nomark _)) (pss_one (ps_ret (pe_fn (ok_paragraph_lines e) (hr.mono (by decide)) (by rfl) (pa_cons (pv 4) (pa_cons (pv 1) pa_nil)) pass0))) pss_nil)
      (pss_cons (ps_if (pt_cmpR op_eq (pv 2) pe_int (nomark _)) (pss_one (ps_ret (pe_fn (ok_table_lines e) (hr.mono (by decide)) (by rfl) (pa_cons (pv 3) (pa_cons (pv 4) (pa_cons (pv 1) pa_nil))) pass0))) pss_nil)
      (pss_cons (ps_if (pt_cmpR op_eq (pv 2) pe_int (nomark _)) (pss_one (ps_ret (pe_fn (ok_plot_lines e) (hr.mono (by decide)) (by rfl) (pa_cons (pv 3) (pa_cons (pv 4) (pa_cons (pv 1) pa_nil))) pass0))) pss_nil)
      (pss_cons (ps_if (pt_cmpR op_eq (pv 2) pe_int (nomark _)) (pss_one (ps_ret (pe_fn (ok_check_lines e) (hr.mono (by decide)) (by rfl) (pa_cons (pv 3) (pa_cons (pv 4) (pa_cons (pv 1) pa_nil))) pass0))) pss_nil)
      (pss_one (ps_ret (pe_fn (ok_bar_lines e) (hr.mono (by decide)) (by rfl) (pa_cons (pv 4) (pa_cons (pv 1) pa_nil)) pass0))))))))), fun F0 σ Q st q => ?_⟩
  have st : Ok K ⟨F0, H, F0⟩ F0 H σ [Vl item, Vl width, .any, .any, .any] := st
  obtain ⟨h1, h2, h3⟩ := hp
  have h1 : R.itemOk item := h1
  cases item with
  | head level t =>
    have z : Ev K σ F0 (tVar 0) (R.Item.head level t) := st.c.v 0 rfl
    refine q_asgG st (st.at (show Ev K σ F0 (tVar 0) (R.T3.mk (0 : Int) level t) from z)) g_t3 fun F H σ st => ?_
    have st : Ok K _ F H σ [Vl (R.Item.head level t), Vl width, Vl (0 : Int), Vl level, Vl t] := st
    refine q_if st (et_test (ev_eq (st.h.v 2 rfl) ev_int)) (fun hb F H st => ?_) (fun hb F H st => absurd hb (by decide))
    refine s_retF st (ev_call3 (st.c.v 3 rfl) (st.c.v 4 rfl) (st.c.v 1 rfl) ?_) rfl q
    exact ⟨h1, h2, h3⟩
  | para t =>
    have z : Ev K σ F0 (tVar 0) (R.Item.para t) := st.c.v 0 rfl
    refine q_asgG st (st.at (show Ev K σ F0 (tVar 0) (R.T3.mk (1 : Int) (0 : Int) t) from z)) g_t3 fun F H σ st => ?_
    have st : Ok K _ F H σ [Vl (R.Item.para t), Vl width, Vl (1 : Int), Vl (0 : Int), Vl t] := st
    refine q_if st (et_test (ev_eq (st.h.v 2 rfl) ev_int)) (fun hb F H st => absurd hb (by decide)) (fun hb F H st => ?_)
    refine q_if st (et_test (ev_eq (st.h.v 2 rfl) ev_int)) (fun hb F H st => ?_) (fun hb F H st => absurd hb (by decide))
    refine s_retF st (ev_call2 (st.c.v 4 rfl) (st.c.v 1 rfl) ?_) rfl q
    exact ⟨h1, h2, h3⟩
  | tab n cs =>
    have z : Ev K σ F0 (tVar 0) (R.Item.tab n cs) := st.c.v 0 rfl
    refine q_asgG st (st.at (show Ev K σ F0 (tVar 0) (R.T3.mk (2 : Int) n cs) from z)) g_t3 fun F H σ st => ?_
    have st : Ok K _ F H σ [Vl (R.Item.tab n cs), Vl width, Vl (2 : Int), Vl n, Vl cs] := st
    refine q_if st (et_test (ev_eq (st.h.v 2 rfl) ev_int)) (fun hb F H st => absurd hb (by decide)) (fun hb F H st => ?_)
    refine q_if st (et_test (ev_eq (st.h.v 2 rfl) ev_int)) (fun hb F H st => absurd hb (by decide)) (fun hb F H st => ?_)
    refine q_if st (et_test (ev_eq (st.h.v 2 rfl) ev_int)) (fun hb F H st => ?_) (fun hb F H st => absurd hb (by decide))
    refine s_retF st (ev_call3 (st.c.v 3 rfl) (st.c.v 4 rfl) (st.c.v 1 rfl) ?_) rfl q
    exact ⟨h1, h2, h3⟩
  | plot h co =>
    have z : Ev K σ F0 (tVar 0) (R.Item.plot h co) := st.c.v 0 rfl
    refine q_asgG st (st.at (show Ev K σ F0 (tVar 0) (R.T3.mk (3 : Int) h co) from z)) g_t3 fun F H σ st => ?_
    have st : Ok K _ F H σ [Vl (R.Item.plot h co), Vl width, Vl (3 : Int), Vl h, Vl co] := st
    refine q_if st (et_test (ev_eq (st.h.v 2 rfl) ev_int)) (fun hb F H st => absurd hb (by decide)) (fun hb F H st => ?_)
    refine q_if st (et_test (ev_eq (st.h.v 2 rfl) ev_int)) (fun hb F H st => absurd hb (by decide)) (fun hb F H st => ?_)
    refine q_if st (et_test (ev_eq (st.h.v 2 rfl) ev_int)) (fun hb F H st => absurd hb (by decide)) (fun hb F H st => ?_)
    refine q_if st (et_test (ev_eq (st.h.v 2 rfl) ev_int)) (fun hb F H st => ?_) (fun hb F H st => absurd hb (by decide))
    refine s_retF st (ev_call3 (st.c.v 3 rfl) (st.c.v 4 rfl) (st.c.v 1 rfl) ?_) rfl q
    obtain ⟨a1, a2, a3, a4, a5⟩ := h1
    exact ⟨a1, a2, a3, a4, a5, by omega, by omega⟩
  | check p t =>
    have z : Ev K σ F0 (tVar 0) (R.Item.check p t) := st.c.v 0 rfl
    refine q_asgG st (st.at (show Ev K σ F0 (tVar 0) (R.T3.mk (4 : Int) p t) from z)) g_t3 fun F H σ st => ?_
    have st : Ok K _ F H σ [Vl (R.Item.check p t), Vl width, Vl (4 : Int), Vl p, Vl t] := st
    refine q_if st (et_test (ev_eq (st.h.v 2 rfl) ev_int)) (fun hb F H st => absurd hb (by decide)) (fun hb F H st => ?_)
    refine q_if st (et_test (ev_eq (st.h.v 2 rfl) ev_int)) (fun hb F H st => absurd hb (by decide)) (fun hb F H st => ?_)
    refine q_if st (et_test (ev_eq (st.h.v 2 rfl) ev_int)) (fun hb F H st => absurd hb (by decide)) (fun hb F H st => ?_)
    refine q_if st (et_test (ev_eq (st.h.v 2 rfl) ev_int)) (fun hb F H st => absurd hb (by decide)) (fun hb F H st => ?_)
    refine q_if st (et_test (ev_eq (st.h.v 2 rfl) ev_int)) (fun hb F H st => ?_) (fun hb F H st => absurd hb (by decide))
    refine s_retF st (ev_call3 (st.c.v 3 rfl) (st.c.v 4 rfl) (st.c.v 1 rfl) ?_) rfl q
    exact ⟨h1, h2, h3⟩
  | bars cs =>
    have z : Ev K σ F0 (tVar 0) (R.Item.bars cs) := st.c.v 0 rfl
    refine q_asgG st (st.at (show Ev K σ F0 (tVar 0) (R.T3.mk (5 : Int) (0 : Int) cs) from z)) g_t3 fun F H σ st => ?_
    have st : Ok K _ F H σ [Vl (R.Item.bars cs), Vl width, Vl (5 : Int), Vl (0 : Int), Vl cs] := st
    refine q_if st (et_test (ev_eq (st.h.v 2 rfl) ev_int)) (fun hb F H st => absurd hb (by decide)) (fun hb F H st => ?_)
    refine q_if st (et_test (ev_eq (st.h.v 2 rfl) ev_int)) (fun hb F H st => absurd hb (by decide)) (fun hb F H st => ?_)
    refine q_if st (et_test (ev_eq (st.h.v 2 rfl) ev_int)) (fun hb F H st => absurd hb (by decide)) (fun hb F H st => ?_)
    refine q_if st (et_test (ev_eq (st.h.v 2 rfl) ev_int)) (fun hb F H st => absurd hb (by decide)) (fun hb F H st => ?_)
    refine q_if st (et_test (ev_eq (st.h.v 2 rfl) ev_int)) (fun hb F H st => absurd hb (by decide)) (fun hb F H st => ?_)
    refine s_retF st (ev_call2 (st.c.v 4 rfl) (st.c.v 1 rfl) ?_) rfl q
    obtain ⟨a1, a2, a3⟩ := h1
    exact ⟨a1, a2, fun c hc => ⟨by have := (a3 c hc).1; omega, (a3 c hc).2⟩, by omega, by omega⟩
end
end Wk
end
section
set_option Elab.async false
set_option linter.all false
set_option maxRecDepth 100000
set_option maxHeartbeats 4000000
/-! The walk, printed by wip/g/gen.py. -/
namespace Wk
open PySem PySem.Spec PyProof.Rows L2 Ty
open Rep (rep)
section
variable {w : World} {K : Fg} {mg : Str → Option Value}
/-! ### row_forms -/
abbrev st67 : Stmt := top 67
abbrev N67 : List Str := ["line", "piece"]
theorem sc67 : FnScope N67 ["line"] (defScope st67) := ⟨rfl, rfl, rfl, by decide +kernel, rfl, by decide +kernel, by decide +kernel⟩
def p_row_forms : (List Int) → Prop := fun l => l.length ≤ 100000
set_option maxHeartbeats 4000000 in
theorem ok_row_forms (e : Env K mg) : FnAt P w K mg "row_forms" 3 ["line"] (Sp1 K p_row_forms (R.rowForms)) := by
  refine fn1 (e.defs 59 67 "row_forms" rfl) sc67 rfl (fun _ _ _ _ _ _ us hu => match us, hu with | [_], _ => rfl) fun base f line hp cdv A outer s H E hr => ⟨_,
    (pss_one (ps_ret (pe_lc (own := [("piece", 1)]) (g := gName 1) rfl sc67.nd (pi_list (pe_slice (sll_of (K := K) rfl) (pe_fn (ok_parts e) (hr.mono (by decide)) (by rfl) (pa_cons (pv 0) (pa_cons pe_int pa_nil)) pass0) (po_some pe_int) (po_some (pe_un un_neg pe_int)))) (blkOk_by (own := [("piece", 1)]) (N := N67) (sc := defScope st67) (by decide +kernel)) (fun _ _ _ _ _ => (pg_name (i := 1) sc67.nd rfl (by first | exact .inl rfl | exact .inr rfl))) (fun _ _ _ _ _ => pts_nil) (fun _ _ _ _ _ => (pe_fn (ok_without_outer_spaces e) (hr.mono (by decide)) (by rfl) (pa_cons (pv 1) pa_nil) pass0))))), fun F0 σ Q st q => ?_⟩
  have st : Ok K ⟨F0, H, F0⟩ F0 H σ [Vl line, .any] := st
  have hp : line.length ≤ 100000 := hp
  have hl := R.parts_len line 124
  refine s_retF st ((en_map st.c (ei_list (en_cut (ev_call2 (st.c.v 0 rfl) ev_int ?_) (eo_some ev_int) (eo_some (ev_neg ev_int))).ev) ?_ (fun y F1 σ1 hy c => (ev_call1 (c.v 1 rfl) ?_)))).ev ?_ q
  · show _ ≤ 1000000; omega
  · rw [cut_from_but (by decide), List.length_dropLast, List.length_drop]
    omega
  · rw [cut_from_but (by decide)] at hy
    have := R.parts_mem (List.mem_of_mem_drop (List.dropLast_subset _ hy))
    show _ ≤ 1000000
    omega
  · rw [cut_from_but (by decide)]
    rfl
/-! ### unquoted -/
abbrev st68 : Stmt := top 68
abbrev N68 : List Str := ["form", "text", "waiting", "byte"]
theorem sc68 : FnScope N68 ["form"] (defScope st68) := ⟨rfl, rfl, rfl, by decide +kernel, rfl, by decide +kernel, by decide +kernel⟩
def p_unquoted : (List Int) → Prop := fun l => l.length ≤ 100000
set_option maxHeartbeats 4000000 in
theorem ok_unquoted (e : Env K mg) : FnAt P w K mg "unquoted" 1 ["form"] (Sp1 K p_unquoted (R.unquoted)) := by
  obtain ⟨hMa, hMg, hMd⟩ := e.mea
  refine fn1 (e.defs 60 68 "unquoted" rfl) sc68 rfl (fun _ _ _ _ _ _ us hu => match us, hu with | [_], _ => rfl) fun base f form hp cdv A outer s H E hr => ⟨_,
    (pss_cons (ps_set (i := 1) sc68.nd rfl (by first | exact .inl rfl | exact .inr rfl) (pe_lst pa_nil))
      (pss_cons (ps_set (i := 2) sc68.nd rfl (by first | exact .inl rfl | exact .inr rfl) pe_bl)
      (pss_cons (ps_for PassesOwn.never rfl (pi_list (pe_slice (sll_of (K := K) rfl) (pv 0) (po_some pe_int) (po_some (pe_un un_neg pe_int)))) (pg_name (i := 3) sc68.nd rfl (by first | exact .inl rfl | exact .inr rfl)) (pss_one (ps_if (pt_val (pv 2)) (pss_cons (ps_expr (pe_bm PySem.F.plainAttrs_list PySem.F.slot_list_append PySem.F.type_list_append mt_append (pv 1) (pa_cons (pe_getD (td := fun _ _ _ => False) hMd (pe_glob (v := .ref hMa) (by rfl) hMg rfl) (pv 3) (pv 3) ⟨by rfl, by rfl, by rfl, by rfl⟩) pa_nil)))
      (pss_one (ps_set (i := 2) sc68.nd rfl (by first | exact .inl rfl | exact .inr rfl) pe_bl))) (pss_one (ps_if (pt_cmpR op_eq (pv 3) pe_int (nomark _)) (pss_one (ps_set (i := 2) sc68.nd rfl (by first | exact .inl rfl | exact .inr rfl) pe_bl)) (pss_one (ps_expr (pe_bm PySem.F.plainAttrs_list PySem.F.slot_list_append PySem.F.type_list_append mt_append (pv 1) (pa_cons (pv 3) pa_nil)))))))))
      (pss_one (ps_ret (pv 1)))))), fun F0 σ Q st q => ?_⟩
  have st : Ok K ⟨F0, H, F0⟩ F0 H σ [Vl form, .any, .any, .any] := st
  have hp : form.length ≤ 100000 := hp
  refine q_newM st (en_nil (α := Int)) fun pl F H σ st => ?_
  refine q_asg st (st.at ev_bl) fun F H σ st => ?_
  have ecut : cut form (some 1) (some (-1)) = (form.drop 1).dropLast := cut_from_but (by decide)
  have hl : ((form.drop 1).dropLast).length ≤ 100000 := by
    rw [List.length_dropLast, List.length_drop]
    omega
  refine q_for st (ei_list (((en_cut (st.c.v 0 rfl) (eo_some ev_int) (eo_some (ev_neg ev_int)))).cast ecut).ev) (fun y => g_name) (fun i Γ => ∃ pl s, Γ = [Vl form, Mu pl ((((form.drop 1).dropLast).take i).foldl R.unqStep ([], false)).1, Vl ((((form.drop 1).dropLast).take i).foldl R.unqStep ([], false)).2, s]) ⟨pl, _, rfl⟩ ?_ ?_
  · rintro G i byte F H σ Γ hc ⟨pl, s, rfl⟩ st
    have hf := R.unq_len form (((form.drop 1).dropLast).take i) ([], false)
    have e0 : ([] : R.B).length = 0 := rfl
    have hi : (((form.drop 1).dropLast).take i).length ≤ 100000 := by rw [List.length_take]; omega
    simp only [e0] at hf
    have step : (((form.drop 1).dropLast).take (i + 1)).foldl R.unqStep ([], false) = R.unqStep ((((form.drop 1).dropLast).take i).foldl R.unqStep ([], false)) byte := by
      rw [List.take_add_one, hc, List.foldl_append]
      rfl
    generalize (((form.drop 1).dropLast).take i).foldl R.unqStep ([], false) = z at st hf step
    have st : Ok K _ F H σ [Vl form, Mu pl z.1, Vl z.2, Vl byte] := st
    refine s_if st (et_B (st.h.v 2 rfl)) (fun hb F H st => ?_) (fun hb F H st => ?_)
    · refine q_app st rfl (st.at (ev_getD (st.c.v 3 rfl) (st.c.v 3 rfl))) ?_ fun F H st => ?_
      · omega
      refine s_asg st (st.at ev_bl) fun F H σ st => ⟨_, _, st, ?_⟩
      rw [step, show R.unqStep z byte = (z.1 ++ [R.meaning byte], false) from if_pos hb, ← meaning_of]
      exact ⟨pl, _, rfl⟩
    · refine s_if st (et_test (ev_eq (st.h.v 3 rfl) ev_int)) (fun hb2 F H st => ?_) (fun hb2 F H st => ?_)
      · refine s_asg st (st.at ev_bl) fun F H σ st => ⟨_, _, st, ?_⟩
        rw [step, show R.unqStep z byte = (z.1, true) from (if_neg (by rw [hb]; decide)).trans (if_pos (of_decide_eq_true hb2))]
        exact ⟨pl, _, rfl⟩
      · refine s_app st rfl (st.at (st.c.v 3 rfl)) ?_ fun F H st => ⟨_, _, st, ?_⟩
        · omega
        rw [step, show R.unqStep z byte = (z.1 ++ [byte], false) from (if_neg (by rw [hb]; decide)).trans (if_neg (of_decide_eq_false hb2))]
        rw [hb]
        exact ⟨pl, _, rfl⟩
  · rintro F H σ Γ ⟨pl, s, rfl⟩ st
    rw [List.take_length] at st
    obtain ⟨F, st⟩ := st.freeze 1 rfl
    exact s_retF st (st.c.v 1 rfl) rfl q
/-! ### number_read -/
abbrev st69 : Stmt := top 69
abbrev N69 : List Str := ["form"]
theorem sc69 : FnScope N69 ["form"] (defScope st69) := ⟨rfl, rfl, rfl, by decide +kernel, rfl, by decide +kernel, by decide +kernel⟩
def p_number_read : (List Int) → Prop := fun _ => True
set_option maxHeartbeats 4000000 in
theorem ok_number_read (e : Env K mg) : FnAt P w K mg "number_read" 3 ["form"] (Sp1 K p_number_read (R.numberRead)) := by
  refine fn1 (e.defs 61 69 "number_read" rfl) sc69 rfl (fun _ _ _ _ _ _ us hu => match us, hu with | [_], _ => rfl) fun base f form hp cdv A outer s H E hr => ⟨_,
    (pss_cons (ps_if (pt_cmpR op_gt (pe_op op_sub (pe_callB (len_of (K := K) rfl) (by rfl) (e.free "len" (by decide)) boot_len (pa_cons (pv 0) pa_nil)) (pe_fn (ok_sign_length e) (hr.mono (by decide)) (by rfl) (pa_cons (pv 0) pa_nil) pass0)) pe_int (nomark _)) (pss_one (ps_ret (pe_tup (pa_cons pe_bl (pa_cons (pe_fn (ok_number_cell e) (hr.mono (by decide)) (by rfl) (pa_cons pe_int pa_nil) pass0) pa_nil))))) pss_nil)
      (pss_one (ps_ret (pe_tup (pa_cons pe_bl (pa_cons (pe_fn (ok_number_cell e) (hr.mono (by decide)) (by rfl) (pa_cons (pe_fn (ok_decimal_value e) (hr.mono (by decide)) (by rfl) (pa_cons (pv 0) pa_nil) pass0) pa_nil) pass0) pa_nil)))))), fun F0 σ Q st q => ?_⟩
  have st : Ok K ⟨F0, H, F0⟩ F0 H σ [Vl form] := st
  refine q_if st (et_test (ev_gt (ev_sub (ev_len (st.h.v 0 rfl)) (ev_call1 (st.h.v 0 rfl) ?_)) ev_int)) (fun hb F H st => ?_) (fun hb F H st => ?_)
  · trivial
  · refine s_retF st (ev_pair ev_bl (ev_call1 ev_int ?_)) ?_ q
    · trivial
    · exact (if_pos (of_decide_eq_true hb)).symm
  · refine s_retF st (ev_pair ev_bl (ev_call1 (ev_call1 (st.c.v 0 rfl) ?_) ?_)) ?_ q
    · trivial
    · trivial
    · exact (if_neg (of_decide_eq_false hb)).symm
/-! ### cell_read -/
abbrev st70 : Stmt := top 70
abbrev N70 : List Str := ["form", "text"]
theorem sc70 : FnScope N70 ["form"] (defScope st70) := ⟨rfl, rfl, rfl, by decide +kernel, rfl, by decide +kernel, by decide +kernel⟩
def p_cell_read : (List Int) → Prop := fun l => l.length ≤ 100000
set_option maxHeartbeats 4000000 in
theorem ok_cell_read (e : Env K mg) : FnAt P w K mg "cell_read" 4 ["form"] (Sp1 K p_cell_read (R.cellRead)) := by
  refine fn1 (e.defs 62 70 "cell_read" rfl) sc70 rfl (fun _ _ _ _ _ _ us hu => match us, hu with | [_], _ => rfl) fun base f form hp cdv A outer s H E hr => ⟨_,
    (pss_cons (ps_if (pt_val (pe_fn (ok_is_decimal e) (hr.mono (by decide)) (by rfl) (pa_cons (pv 0) pa_nil) pass0)) (pss_one (ps_ret (pe_fn (ok_number_read e) (hr.mono (by decide)) (by rfl) (pa_cons (pv 0) pa_nil) pass0))) pss_nil)
      (pss_cons (ps_set (i := 1) sc70.nd rfl (by first | exact .inl rfl | exact .inr rfl) (pe_ifExp (pt_cmpR (op_eqD hr.units) (pe_slice (sll_of (K := K) rfl) (pv 0) po_none (po_some pe_int)) (pe_lst (pa_cons pe_int pa_nil)) (nomark _)) (pe_fn (ok_unquoted e) (hr.mono (by decide)) (by rfl) (pa_cons (pv 0) pa_nil) pass0) (pv 0)))
      (pss_one (ps_ret (pe_tup (pa_cons (pe_fn (ok_is_text e) (hr.mono (by decide)) (by rfl) (pa_cons (pv 1) pa_nil) pass0) (pa_cons (pe_fn (ok_text_cell e) (hr.mono (by decide)) (by rfl) (pa_cons (pv 1) pa_nil) pass0) pa_nil))))))), fun F0 σ Q st q => ?_⟩
  have st : Ok K ⟨F0, H, F0⟩ F0 H σ [Vl form, .any] := st
  have hp : form.length ≤ 100000 := hp
  refine q_if st (et_B (ev_call1 (st.h.v 0 rfl) ?_)) (fun hb F H st => ?_) (fun hb F H st => ?_)
  · show _ ≤ 1000000; omega
  · refine s_retF st (ev_call1 (st.c.v 0 rfl) ?_) ?_ q
    · trivial
    · exact (if_pos hb).symm
  have e0 : (if decide (cut form none (some 1) = [34]) = true then R.unquoted form else form) = R.cellText form := by
    rw [cut_to (by decide)]
    unfold R.cellText
    by_cases h : form.take 1 = [34]
    · rw [if_pos h, if_pos (by rw [show form.take (1 : Int).toNat = [34] from h]; rfl)]
    · rw [if_neg h, if_neg (by rw [show decide (form.take (1 : Int).toNat = [34]) = false from decide_eq_false h]; decide)]
  refine q_asg st (st.at (ev_ite (et_test (ev_eqL (en_cut (st.c.v 0 rfl) eo_none (eo_some ev_int)).ev (en_one ev_int).ev)) (fun hs => (ev_call1 (st.c.v 0 rfl) ?_)) (fun hs => (st.c.v 0 rfl)))) fun F H σ st => ?_
  · exact hp
  rw [e0] at st
  have st : Ok K _ F H σ [Vl form, Vl (R.cellText form)] := st
  refine s_retF st (ev_pair (ev_call1 (st.c.v 1 rfl) ?_) (ev_call1 (st.c.v 1 rfl) ?_)) ?_ q
  · trivial
  · trivial
  · exact (if_neg (by rw [hb]; decide)).symm
/-! ### cells_read -/
abbrev st71 : Stmt := top 71
abbrev N71 : List Str := ["forms", "cells", "form", "valid", "cell"]
theorem sc71 : FnScope N71 ["forms"] (defScope st71) := ⟨rfl, rfl, rfl, by decide +kernel, rfl, by decide +kernel, by decide +kernel⟩
def p_cells_read : (List (List Int)) → Prop := fun l => l.length ≤ 100000 ∧ ∀ x ∈ l, x.length ≤ 100000
set_option maxHeartbeats 4000000 in
theorem ok_cells_read (e : Env K mg) : FnAt P w K mg "cells_read" 5 ["forms"] (Sp1 K p_cells_read (R.cellsRead)) := by
  refine fn1 (e.defs 63 71 "cells_read" rfl) sc71 rfl (fun _ _ _ _ _ _ us hu => match us, hu with | [_], _ => rfl) fun base f forms hp cdv A outer s H E hr => ⟨_,
    (pss_cons (ps_set (i := 1) sc71.nd rfl (by first | exact .inl rfl | exact .inr rfl) (pe_lst pa_nil))
      (pss_cons (ps_for PassesOwn.never rfl (pi_list (pv 0)) (pg_name (i := 2) sc71.nd rfl (by first | exact .inl rfl | exact .inr rfl)) (pss_cons (ps_asg (pe_fn (ok_cell_read e) (hr.mono (by decide)) (by rfl) (pa_cons (pv 2) pa_nil) pass0) (pg_tup rfl (pgs_cons (pg_name (i := 3) sc71.nd rfl (by first | exact .inl rfl | exact .inr rfl)) (pgs_cons (pg_name (i := 4) sc71.nd rfl (by first | exact .inl rfl | exact .inr rfl)) pgs_nil))))
      (pss_cons (ps_if (pt_not (pt_val (pv 3))) (pss_one (ps_ret (pe_tup (pa_cons pe_bl (pa_cons (pe_lst pa_nil) pa_nil))))) pss_nil)
      (pss_one (ps_expr (pe_bm PySem.F.plainAttrs_list PySem.F.slot_list_append PySem.F.type_list_append mt_append (pv 1) (pa_cons (pv 4) pa_nil)))))))
      (pss_one (ps_ret (pe_tup (pa_cons pe_bl (pa_cons (pv 1) pa_nil))))))), fun F0 σ Q st q => ?_⟩
  have st : Ok K ⟨F0, H, F0⟩ F0 H σ [Vl forms, .any, .any, .any, .any] := st
  obtain ⟨h1, h2⟩ := hp
  refine q_newM st (en_nil (α := R.Cell)) fun pl F H σ st => ?_
  refine q_for st (ei_list (st.c.v 0 rfl)) (fun y => g_name) (fun i Γ => ∃ pl cs s t u, Γ = [Vl forms, Mu pl cs, s, t, u] ∧ cs.length ≤ i ∧ R.cellsReadGo forms = (R.cellsReadGo (forms.drop i)).map fun l => cs ++ l) ⟨pl, [], _, _, _, rfl, Nat.le_refl _, by simp⟩ ?_ ?_
  · rintro G i form F H σ Γ hc ⟨pl, cs, s, t, u, rfl, hl, heq⟩ st
    have st : Ok K _ F H σ [Vl forms, Mu pl cs, Vl form, t, u] := st
    obtain ⟨hi, hfi⟩ := List.getElem?_eq_some_iff.mp hc
    have ed : forms.drop i = form :: forms.drop (i + 1) := by
      rw [← hfi]
      exact List.drop_eq_getElem_cons hi
    rw [ed] at heq
    refine q_asgG st (st.at (ev_call1 (st.c.v 2 rfl) ?_)) g_pair fun F H σ st => ?_
    · exact h2 form (List.mem_of_getElem? hc)
    have st : Ok K _ F H σ [Vl forms, Mu pl cs, Vl form, Vl (R.cellRead form).1, Vl (R.cellRead form).2] := st
    have eg : R.cellsReadGo (form :: forms.drop (i + 1)) = match R.cellRead form with
      | (false, _) => none
      | (true, c) => (R.cellsReadGo (forms.drop (i + 1))).map fun l => c :: l := rfl
    rw [eg] at heq
    generalize R.cellRead form = z at st heq
    obtain ⟨v, c⟩ := z
    refine q_if st (et_not (et_B (st.h.v 3 rfl))) (fun hb F H st => ?_) (fun hb F H st => ?_)
    · refine s_retF st (ev_pair ev_bl en_nil.ev) ?_ q
      cases v with
      | true => cases hb
      | false =>
        unfold R.cellsRead
        rw [heq]
        rfl
    · cases v with
      | false => cases hb
      | true =>
        have st : Ok K _ F H σ [Vl forms, Mu pl cs, Vl form, Vl true, Vl c] := st
        refine s_app st rfl (st.at (st.c.v 4 rfl)) ?_ fun F H st => ⟨_, _, st, ?_⟩
        · omega
        · refine ⟨pl, cs ++ [c], _, _, _, rfl, by rw [List.length_append, List.length_singleton]; omega, ?_⟩
          rw [heq, Option.map_map]
          congr 1
          funext l
          simp
  · rintro F H σ Γ ⟨pl, cs, s, t, u, rfl, hl, heq⟩ st
    rw [List.drop_length] at heq
    obtain ⟨F, st⟩ := st.freeze 1 rfl
    refine s_retF st (ev_pair ev_bl (st.c.v 1 rfl)) ?_ q
    unfold R.cellsRead
    rw [heq]
    show (true, cs) = (true, cs ++ [])
    rw [List.append_nil]
/-! ### forms_read -/
abbrev st72 : Stmt := top 72
abbrev N72 : List Str := ["columns", "lines", "forms", "line", "found"]
theorem sc72 : FnScope N72 ["columns", "lines"] (defScope st72) := ⟨rfl, rfl, rfl, by decide +kernel, rfl, by decide +kernel, by decide +kernel⟩
def p_forms_read : Int → (List (List Int)) → Prop := fun n l => n ≤ 8 ∧ l.length ≤ 1000 ∧ ∀ x ∈ l, x.length ≤ 100000
set_option maxHeartbeats 4000000 in
theorem ok_forms_read (e : Env K mg) : FnAt P w K mg "forms_read" 4 ["columns", "lines"] (Sp2 K p_forms_read (R.formsRead)) := by
  refine fn2 (e.defs 64 72 "forms_read" rfl) sc72 rfl (fun _ _ _ _ _ _ us hu => match us, hu with | [_, _], _ => rfl) fun base f columns lines hp cdv A outer s H E hr => ⟨_,
    (pss_cons (ps_set (i := 2) sc72.nd rfl (by first | exact .inl rfl | exact .inr rfl) (pe_lst pa_nil))
      (pss_cons (ps_for PassesOwn.never rfl (pi_list (pv 1)) (pg_name (i := 3) sc72.nd rfl (by first | exact .inl rfl | exact .inr rfl)) (pss_cons (ps_set (i := 4) sc72.nd rfl (by first | exact .inl rfl | exact .inr rfl) (pe_fn (ok_row_forms e) (hr.mono (by decide)) (by rfl) (pa_cons (pv 3) pa_nil) pass0))
      (pss_cons (ps_if (pt_cmpR op_ne (pe_callB (len_of (K := K) rfl) (by rfl) (e.free "len" (by decide)) boot_len (pa_cons (pv 4) pa_nil)) (pv 0) (nomark _)) (pss_one (ps_ret (pe_tup (pa_cons pe_bl (pa_cons (pe_lst pa_nil) pa_nil))))) pss_nil)
      (pss_one (ps_expr (pe_bm PySem.F.plainAttrs_list PySem.F.slot_list_extend PySem.F.type_list_extend mt_extend (pv 2) (pa_cons (pv 4) pa_nil)))))))
      (pss_one (ps_ret (pe_tup (pa_cons pe_bl (pa_cons (pv 2) pa_nil))))))), fun F0 σ Q st q => ?_⟩
  have st : Ok K ⟨F0, H, F0⟩ F0 H σ [Vl columns, Vl lines, .any, .any, .any] := st
  obtain ⟨h0, h1, h2⟩ := hp
  refine q_newM st (en_nil (α := (List Int))) fun pl F H σ st => ?_
  refine q_for st (ei_list (st.c.v 1 rfl)) (fun y => g_name) (fun i Γ => ∃ pl cs s t, Γ = [Vl columns, Vl lines, Mu pl cs, s, t] ∧ cs.length ≤ 8 * i ∧ R.formsReadGo columns lines = (R.formsReadGo columns (lines.drop i)).map fun l => cs ++ l) ⟨pl, [], _, _, rfl, Nat.le_refl _, by simp⟩ ?_ ?_
  · rintro G i line F H σ Γ hc ⟨pl, cs, s, t, rfl, hl, heq⟩ st
    have st : Ok K _ F H σ [Vl columns, Vl lines, Mu pl cs, Vl line, t] := st
    obtain ⟨hi, hfi⟩ := List.getElem?_eq_some_iff.mp hc
    have ed : lines.drop i = line :: lines.drop (i + 1) := by
      rw [← hfi]
      exact List.drop_eq_getElem_cons hi
    rw [ed] at heq
    refine q_asg st (st.at (ev_call1 (st.c.v 3 rfl) ?_)) fun F H σ st => ?_
    · exact h2 line (List.mem_of_getElem? hc)
    have st : Ok K _ F H σ [Vl columns, Vl lines, Mu pl cs, Vl line, Vl (R.rowForms line)] := st
    have eg : R.formsReadGo columns (line :: lines.drop (i + 1)) = if ((R.rowForms line).length : Int) = columns then (R.formsReadGo columns (lines.drop (i + 1))).map fun x => R.rowForms line ++ x else none := rfl
    rw [eg] at heq
    refine q_if st (et_test (ev_ne (ev_len (st.h.v 4 rfl)) (st.h.v 0 rfl))) (fun hb F H st => ?_) (fun hb F H st => ?_)
    · refine s_retF st (ev_pair ev_bl en_nil.ev) ?_ q
      unfold R.formsRead
      rw [heq, if_neg (by simpa using hb)]
      rfl
    · have e1 : ((R.rowForms line).length : Int) = columns := by simpa using hb
      rw [if_pos e1] at heq
      refine s_ext st rfl (st.at (st.c.v 4 rfl)) ?_ fun F H st => ⟨_, _, st, ?_⟩
      · omega
      · refine ⟨pl, cs ++ R.rowForms line, _, _, rfl, by rw [List.length_append]; omega, ?_⟩
        rw [heq, Option.map_map]
        congr 1
        funext l
        simp
  · rintro F H σ Γ ⟨pl, cs, s, t, rfl, hl, heq⟩ st
    rw [List.drop_length] at heq
    obtain ⟨F, st⟩ := st.freeze 2 rfl
    refine s_retF st (ev_pair ev_bl (st.c.v 2 rfl)) ?_ q
    unfold R.formsRead
    rw [heq]
    show (true, cs) = (true, cs ++ [])
    rw [List.append_nil]
/-! ### table_read -/
abbrev st73 : Stmt := top 73
abbrev N73 : List Str := ["text", "lines", "columns", "even", "forms", "valid", "cells", "cell"]
theorem sc73 : FnScope N73 ["text"] (defScope st73) := ⟨rfl, rfl, rfl, by decide +kernel, rfl, by decide +kernel, by decide +kernel⟩
def p_table_read : (List Int) → Prop := fun l => l.length ≤ 99000
set_option maxHeartbeats 4000000 in
theorem ok_table_read (e : Env K mg) : FnAt P w K mg "table_read" 9 ["text"] (Sp1 K p_table_read (R.tableRead)) := by
  refine fn1 (e.defs 65 73 "table_read" rfl) sc73 rfl (fun _ _ _ _ _ _ us hu => match us, hu with | [_], _ => rfl) fun base f text hp cdv A outer s H E hr => ⟨_,
    (pss_cons (ps_set (i := 1) sc73.nd rfl (by first | exact .inl rfl | exact .inr rfl) (pe_fn (ok_parts e) (hr.mono (by decide)) (by rfl) (pa_cons (pv 0) (pa_cons pe_int pa_nil)) pass0))
      (pss_cons (ps_if (PW.pt (pw_or (pt_cmpR op_lt (pe_callB (len_of (K := K) rfl) (by rfl) (e.free "len" (by decide)) boot_len (pa_cons (pv 1) pa_nil)) pe_int (nomark _)) (pw_or1 (pt_cmpR op_gt (pe_callB (len_of (K := K) rfl) (by rfl) (e.free "len" (by decide)) boot_len (pa_cons (pv 1) pa_nil)) pe_int (nomark _))))) (pss_one (ps_ret (pe_tup (pa_cons pe_int (pa_cons (pe_lst pa_nil) pa_nil))))) pss_nil)
      (pss_cons (ps_set (i := 2) sc73.nd rfl (by first | exact .inl rfl | exact .inr rfl) (pe_callB (len_of (K := K) rfl) (by rfl) (e.free "len" (by decide)) boot_len (pa_cons (pe_fn (ok_row_forms e) (hr.mono (by decide)) (by rfl) (pa_cons (pe_ix (ixl_of (K := K) rfl) (pv 1) pe_int (fun _ _ => rfl)) pa_nil) pass0) pa_nil)))
      (pss_cons (ps_if (PW.pt (pw_or (pt_cmpR op_lt (pv 2) pe_int (nomark _)) (pw_or1 (pt_cmpR op_gt (pv 2) pe_int (nomark _))))) (pss_one (ps_ret (pe_tup (pa_cons pe_int (pa_cons (pe_lst pa_nil) pa_nil))))) pss_nil)
      (pss_cons (ps_asg (pe_fn (ok_forms_read e) (hr.mono (by decide)) (by rfl) (pa_cons (pv 2) (pa_cons (pe_op op_cat (pe_lst (pa_cons (pe_ix (ixl_of (K := K) rfl) (pv 1) pe_int (fun _ _ => rfl)) pa_nil)) (pe_slice (sll_of (K := K) rfl) (pv 1) (po_some pe_int) (po_some (pe_un un_neg pe_int)))) pa_nil)) pass0) (pg_tup rfl (pgs_cons (pg_name (i := 3) sc73.nd rfl (by first | exact .inl rfl | exact .inr rfl)) (pgs_cons (pg_name (i := 4) sc73.nd rfl (by first | exact .inl rfl | exact .inr rfl)) pgs_nil))))
      (pss_cons (ps_if (pt_not (pt_val (pv 3))) (pss_one (ps_ret (pe_tup (pa_cons pe_int (pa_cons (pe_lst pa_nil) pa_nil))))) pss_nil)
      (pss_cons (ps_asg (pe_fn (ok_cells_read e) (hr.mono (by decide)) (by rfl) (pa_cons (pv 4) pa_nil) pass0) (pg_tup rfl (pgs_cons (pg_name (i := 5) sc73.nd rfl (by first | exact .inl rfl | exact .inr rfl)) (pgs_cons (pg_name (i := 6) sc73.nd rfl (by first | exact .inl rfl | exact .inr rfl)) pgs_nil))))
      (pss_cons (ps_if (PW.pt (pw_or (pt_not (pt_val (pv 5))) (pw_or1 (pt_val (pe_callB (cr_any rfl) (by rfl) (e.free "any" (by decide)) (by decide +kernel) (pa_cons (pe_lc (own := [("cell", 7)]) (g := gName 7) rfl sc73.nd (pi_list (pe_slice (sll_of (K := K) rfl) (pv 6) po_none (po_some (pv 2)))) (blkOk_by (own := [("cell", 7)]) (N := N73) (sc := defScope st73) (by decide +kernel)) (fun _ _ _ _ _ => (pg_name (i := 7) sc73.nd rfl (by first | exact .inl rfl | exact .inr rfl))) (fun _ _ _ _ _ => pts_nil) (fun _ _ _ _ _ => (pe_fn (ok_is_number e) (hr.mono (by decide)) (by rfl) (pa_cons (pv 7) pa_nil) pass0))) pa_nil)))))) (pss_one (ps_ret (pe_tup (pa_cons pe_int (pa_cons (pe_lst pa_nil) pa_nil))))) pss_nil)
      (pss_cons (ps_if (pt_cmpR (op_neD hr.units) (pe_fn (ok_full_text e) (hr.mono (by decide)) (by rfl) (pa_cons (pv 2) (pa_cons (pv 6) pa_nil)) pass0) (pv 0) (nomark _)) (pss_one (ps_ret (pe_tup (pa_cons pe_int (pa_cons (pe_lst pa_nil) pa_nil))))) pss_nil)
      (pss_one (ps_ret (pe_tup (pa_cons (pv 2) (pa_cons (pv 6) pa_nil)))))))))))))), fun F0 σ Q st q => ?_⟩
  have st : Ok K ⟨F0, H, F0⟩ F0 H σ [Vl text, .any, .any, .any, .any, .any, .any, .any] := st
  have hp : text.length ≤ 99000 := hp
  have mm : ∀ x ∈ R.parts text 10, x.length ≤ 99000 := fun x hx => Nat.le_trans (R.parts_mem hx) hp
  have eq0 : R.tableRead text = if ((R.parts text 10).length : Int) < 4 ∨ 28 < ((R.parts text 10).length : Int) then (0, [])
    else if ((R.rowForms ((R.parts text 10).getD 1 [])).length : Int) < 1 ∨ 8 < ((R.rowForms ((R.parts text 10).getD 1 [])).length : Int) then (0, [])
    else match R.formsReadGo ((R.rowForms ((R.parts text 10).getD 1 [])).length : Int) ((R.parts text 10).getD 1 [] :: ((R.parts text 10).drop 3).dropLast) with
      | none => (0, [])
      | some forms => match R.cellsReadGo forms with
        | none => (0, [])
        | some cells => if (cells.take ((R.rowForms ((R.parts text 10).getD 1 [])).length : Int).toNat).any R.isNumber = true then (0, []) else if R.fullText ((R.rowForms ((R.parts text 10).getD 1 [])).length : Int) cells = text then (((R.rowForms ((R.parts text 10).getD 1 [])).length : Int), cells) else (0, []) := rfl
  refine q_asg st (st.at (ev_call2 (st.c.v 0 rfl) ev_int ?_)) fun F H σ st => ?_
  · show _ ≤ 1000000; omega
  generalize R.parts text 10 = lines at st mm eq0
  have st : Ok K _ F H σ [Vl text, Vl lines, .any, .any, .any, .any, .any, .any] := st
  refine q_if st (et_or (et_test (ev_lt (ev_len (st.h.v 1 rfl)) ev_int)) (fun hs => (et_test (ev_gt (ev_len (st.h.v 1 rfl)) ev_int)))) (fun hb F H st => ?_) (fun hb F H st => ?_)
  · refine s_retF st (ev_pair ev_int en_nil.ev) ?_ q
    rw [eq0, if_pos (by simpa using hb)]
  rw [if_neg (by simpa using hb)] at eq0
  rw [Bool.or_eq_false_iff] at hb
  have hb1 := of_decide_eq_false hb.1
  have hb2 := of_decide_eq_false hb.2
  have a1 : atI lines 1 = some (lines.getD 1 []) := atI_nat' (by decide) (by
    rw [List.getD_eq_getElem?_getD, List.getElem?_eq_getElem (show (1 : Int).toNat < lines.length by show 1 < _; omega)]
    show _ = some ((lines[1]?).getD [])
    rw [List.getElem?_eq_getElem (show 1 < lines.length by omega)]
    rfl)
  have m1 : lines.getD 1 [] ∈ lines := by
    rw [List.getD_eq_getElem?_getD, List.getElem?_eq_getElem (show 1 < lines.length by omega)]
    exact List.getElem_mem _
  generalize lines.getD 1 [] = l1 at a1 m1 eq0
  have ml1 := mm l1 m1
  refine q_asg st (st.at (ev_len (ev_call1 (ev_ix (x := (l1)) (st.c.v 1 rfl) ev_int ?_) ?_))) fun F H σ st => ?_
  · exact a1
  · show _ ≤ 100000; omega
  generalize ((R.rowForms l1).length : Int) = columns at st eq0
  have st : Ok K _ F H σ [Vl text, Vl lines, Vl columns, .any, .any, .any, .any, .any] := st
  refine q_if st (et_or (et_test (ev_lt (st.h.v 2 rfl) ev_int)) (fun hs => (et_test (ev_gt (st.h.v 2 rfl) ev_int)))) (fun hb F H st => ?_) (fun hb F H st => ?_)
  · refine s_retF st (ev_pair ev_int en_nil.ev) ?_ q
    rw [eq0, if_pos (by simpa using hb)]
  rw [if_neg (by simpa using hb)] at eq0
  rw [Bool.or_eq_false_iff] at hb
  have c1 := of_decide_eq_false hb.1
  have c2 := of_decide_eq_false hb.2
  have ecat : [l1] ++ cut lines (some 3) (some (-1)) = l1 :: (lines.drop 3).dropLast := by
    rw [cut_from_but (by decide)]
    rfl
  have llen : (l1 :: (lines.drop 3).dropLast).length ≤ 1000 := by
    rw [List.length_cons, List.length_dropLast, List.length_drop]
    omega
  have lcnt : (l1 :: (lines.drop 3).dropLast).length = lines.length - 3 := by
    rw [List.length_cons, List.length_dropLast, List.length_drop]
    omega
  have lmem : ∀ x ∈ l1 :: (lines.drop 3).dropLast, x.length ≤ 99000 := fun x hx => by
    rcases List.mem_cons.mp hx with rfl | hx
    · exact ml1
    · exact mm x (List.mem_of_mem_drop (List.dropLast_subset _ hx))
  refine q_asgG st (st.at (ev_call2 (st.c.v 2 rfl) (((en_cat (en_one (ev_ix (x := (l1)) (st.c.v 1 rfl) ev_int ?_)).ev (en_cut (st.c.v 1 rfl) (eo_some ev_int) (eo_some (ev_neg ev_int))).ev ?_)).cast ecat).ev ?_)) g_pair fun F H σ st => ?_
  · exact a1
  · have := congrArg List.length ecat
    rw [List.length_append] at this
    omega
  · exact ⟨by omega, llen, fun x hx => by have := lmem x hx; omega⟩
  have efr : R.formsRead columns (l1 :: (lines.drop 3).dropLast) = match R.formsReadGo columns (l1 :: (lines.drop 3).dropLast) with
    | none => (false, [])
    | some l => (true, l) := rfl
  have st : Ok K _ F H σ [Vl text, Vl lines, Vl columns, Vl (R.formsRead columns (l1 :: (lines.drop 3).dropLast)).1, Vl (R.formsRead columns (l1 :: (lines.drop 3).dropLast)).2, .any, .any, .any] := st
  cases hfg : R.formsReadGo columns (l1 :: (lines.drop 3).dropLast) with
  | none =>
    rw [hfg] at efr eq0
    rw [efr] at st
    refine q_if st (et_not (et_B (st.h.v 3 rfl))) (fun hb F H st => ?_) (fun hb F H st => by cases hb)
    exact s_retF st (ev_pair ev_int en_nil.ev) eq0.symm q
  | some forms =>
    rw [hfg] at efr eq0
    rw [efr] at st
    refine q_if st (et_not (et_B (st.h.v 3 rfl))) (fun hb F H st => by cases hb) (fun hb F H st => ?_)
    have st : Ok K _ F H σ [Vl text, Vl lines, Vl columns, Vl true, Vl forms, .any, .any, .any] := st
    obtain ⟨f1, f2⟩ := R.formsRead_ok hfg
    have fl : forms.length ≤ 1000 := by
      rw [lcnt] at f1
      have : columns * ((lines.length - 3 : Nat) : Int) ≤ 8 * 25 := Int.mul_le_mul (by omega) (by omega) (by omega) (by decide)
      omega
    refine q_asgG st (st.at (ev_call1 (st.c.v 4 rfl) ?_)) g_pair fun F H σ st => ?_
    · refine ⟨by omega, fun x hx => ?_⟩
      obtain ⟨l, hl, hx⟩ := f2 x hx
      have := lmem l hl
      have := R.rowForms_mem hx
      omega
    have ecr : R.cellsRead forms = match R.cellsReadGo forms with
      | none => (false, [])
      | some l => (true, l) := rfl
    have st : Ok K _ F H σ [Vl text, Vl lines, Vl columns, Vl true, Vl forms, Vl (R.cellsRead forms).1, Vl (R.cellsRead forms).2, .any] := st
    cases hcg : R.cellsReadGo forms with
    | none =>
      rw [hcg] at ecr
      simp only [hcg] at eq0
      rw [ecr] at st
      refine q_if st (et_or (et_not (et_B (st.h.v 5 rfl))) (fun hs => (et_B (ev_any (en_map st.h (ei_list (en_cut (st.h.v 6 rfl) eo_none (eo_some (st.h.v 2 rfl))).ev) ?_ (fun y F1 σ1 hy c => (ev_call1 (c.v 7 rfl) ?_))).ev)))) (fun hb F H st => ?_) (fun hb F H st => by cases hb)
      · show (cut ([] : List R.Cell) none (some columns)).length ≤ _
        rw [cut_to (by omega), List.length_take]
        exact Nat.le_trans (Nat.min_le_right _ _) (Nat.zero_le _)
      · trivial
      exact s_retF st (ev_pair ev_int en_nil.ev) eq0.symm q
    | some cells =>
      rw [hcg] at ecr
      simp only [hcg] at eq0
      rw [ecr] at st
      have st : Ok K _ F H σ [Vl text, Vl lines, Vl columns, Vl true, Vl forms, Vl true, Vl cells, .any] := st
      obtain ⟨g1, g2⟩ := R.cellsRead_ok hcg
      have eany : ((cut cells none (some columns)).map fun y => R.isNumber y).any id = (cells.take columns.toNat).any R.isNumber := by
        rw [cut_to (by omega), List.any_map]
        rfl
      refine q_if st (et_or (et_not (et_B (st.h.v 5 rfl))) (fun hs => (et_B (ev_any (en_map st.h (ei_list (en_cut (st.h.v 6 rfl) eo_none (eo_some (st.h.v 2 rfl))).ev) ?_ (fun y F1 σ1 hy c => (ev_call1 (c.v 7 rfl) ?_))).ev)))) (fun hb F H st => ?_) (fun hb F H st => ?_)
      · rw [cut_to (by omega), List.length_take]
        omega
      · trivial
      · refine s_retF st (ev_pair ev_int en_nil.ev) ?_ q
        rw [eq0, if_pos (by rw [← eany]; simpa using hb)]
      rw [if_neg (by rw [← eany]; intro e; rw [e] at hb; exact absurd hb (by decide))] at eq0
      have tok : R.tabOk columns cells := by
        rw [lcnt] at f1
        have e25 : columns * ((lines.length - 3 : Nat) : Int) ≤ columns * 25 := Int.mul_le_mul_of_nonneg_left (by omega) (by omega)
        have e1 : columns * 1 ≤ columns * ((lines.length - 3 : Nat) : Int) := Int.mul_le_mul_of_nonneg_left (by omega) (by omega)
        refine ⟨by omega, by omega, by omega, by omega, ?_, g2⟩
        rw [g1, f1]
        exact Int.mul_emod_right _ _
      refine q_if st (et_test (ev_neL (ev_call2 (st.h.v 2 rfl) (st.h.v 6 rfl) ?_) (st.h.v 0 rfl))) (fun hb F H st => ?_) (fun hb F H st => ?_)
      · exact tok
      · refine s_retF st (ev_pair ev_int en_nil.ev) ?_ q
        rw [eq0, if_neg (by simpa using hb)]
      · refine s_retF st (ev_pair (st.c.v 2 rfl) (st.c.v 6 rfl)) ?_ q
        rw [eq0, if_pos (by simpa using hb)]
end
end Wk
end
section
set_option Elab.async false
set_option linter.all false
set_option maxRecDepth 100000
set_option maxHeartbeats 4000000
/-! The walk, printed by wip/g/gen.py. -/
namespace Wk
open PySem PySem.Spec PyProof.Rows L2 Ty
open Rep (rep)
section
variable {w : World} {K : Fg} {mg : Str → Option Value}
/-! ### document -/
abbrev st75 : Stmt := top 75
abbrev N75 : List Str := ["stock", "width", "lines", "at", "item"]
theorem sc75 : FnScope N75 ["stock", "width"] (defScope st75) := ⟨rfl, rfl, rfl, by decide +kernel, rfl, by decide +kernel, by decide +kernel⟩
def p_document : (List R.Item) → Int → Prop := fun s w => R.stockOk s ∧ 20 ≤ w ∧ w ≤ 1000
set_option maxHeartbeats 4000000 in
theorem ok_document (e : Env K mg) : FnAt P w K mg "document" 10 ["stock", "width"] (Sp2 K p_document (R.document)) := by
  refine fn2 (e.defs 66 75 "document" rfl) sc75 rfl (fun _ _ _ _ _ _ us hu => match us, hu with | [_, _], _ => rfl) fun base f stock width hp cdv A outer s H E hr => ⟨_,
    (pss_cons (ps_set (i := 2) sc75.nd rfl (by first | exact .inl rfl | exact .inr rfl) (pe_lst pa_nil))
      (pss_cons (ps_for PassesOwn.never rfl (pi_enum (by rfl) (e.free "enumerate" (by decide)) (pa_cons (pv 0) pa_nil)) (pg_tup rfl (pgs_cons (pg_name (i := 3) sc75.nd rfl (by first | exact .inl rfl | exact .inr rfl)) (pgs_cons (pg_name (i := 4) sc75.nd rfl (by first | exact .inl rfl | exact .inr rfl)) pgs_nil))) (pss_cons (ps_if (pt_cmpR op_gt (pv 3) pe_int (nomark _)) (pss_one (ps_expr (pe_bm PySem.F.plainAttrs_list PySem.F.slot_list_append PySem.F.type_list_append mt_append (pv 2) (pa_cons (pe_lst pa_nil) pa_nil)))) pss_nil)
      (pss_one (ps_expr (pe_bm PySem.F.plainAttrs_list PySem.F.slot_list_extend PySem.F.type_list_extend mt_extend (pv 2) (pa_cons (pe_fn (ok_item_lines e) (hr.mono (by decide)) (by rfl) (pa_cons (pv 4) (pa_cons (pv 1) pa_nil)) pass0) pa_nil))))))
      (pss_one (ps_ret (pv 2))))), fun F0 σ Q st q => ?_⟩
  have st : Ok K ⟨F0, H, F0⟩ F0 H σ [Vl stock, Vl width, .any, .any, .any] := st
  obtain ⟨⟨h0, h1⟩, h2, h3⟩ := hp
  refine q_newM st (en_nil (α := (List Int))) fun pl F H σ st => ?_
  refine q_for st (ei_enum (st.c.v 0 rfl)) (fun y => g_pair) (fun i Γ => ∃ pl s t, Γ = [Vl stock, Vl width, Mu pl (R.document (stock.take i) width), s, t]) ⟨pl, _, _, rfl⟩ ?_ ?_
  · rintro G i ⟨at', item⟩ F H σ Γ hb ⟨pl, s, t, rfl⟩ st
    obtain ⟨hi, hat, hit⟩ : i < stock.length ∧ (i : Int) = at' ∧ stock[i]? = some item := by
      obtain ⟨h5, h6⟩ := List.getElem?_eq_some_iff.mp hb
      rw [List.length_map, List.length_zipIdx] at h5
      rw [List.getElem_map, List.getElem_zipIdx] at h6
      obtain ⟨e1, e2⟩ := Prod.mk.inj h6
      exact ⟨h5, by simpa using e1, List.getElem?_eq_some_iff.mpr ⟨h5, e2⟩⟩
    subst hat
    have hok := h1 item (List.mem_of_getElem? hit)
    have hil := R.item_len hok h2
    have htk : ∀ x ∈ stock.take i, R.itemOk x := fun x hx => h1 x (List.mem_of_mem_take hx)
    have hdl := R.document_len htk h2
    have htl : (stock.take i).length ≤ 12 := by rw [List.length_take]; omega
    have hdl : (R.document (stock.take i) width).length ≤ 600012 := Nat.le_trans hdl (Nat.le_trans (Nat.mul_le_mul_right _ htl) (by decide))
    have st : Ok K _ F H σ [Vl stock, Vl width, Mu pl (R.document (stock.take i) width), Vl (i : Int), Vl item] := st
    have hst : stock.take (i + 1) = stock.take i ++ [item] := by
      rw [List.take_add_one, hit]
      rfl
    refine q_if st (et_test (ev_gt (st.h.v 3 rfl) ev_int)) (fun hb F H st => ?_) (fun hb F H st => ?_)
    · have hpos := of_decide_eq_true hb
      refine s_app st rfl (st.at (en_nil (α := Int)).ev) ?_ fun F H st => ?_
      · omega
      refine s_ext st rfl (st.at (ev_call2 (st.c.v 4 rfl) (st.c.v 1 rfl) ?_)) ?_ fun F H st => ⟨_, _, st, ?_⟩
      · exact ⟨hok, h2, h3⟩
      · rw [List.length_append, List.length_singleton]
        omega
      · rw [hst, R.document_snoc _ _ _ (fun e => by
          have := congrArg List.length e
          rw [List.length_take, List.length_nil] at this
          omega)]
        exact ⟨pl, _, _, by rw [List.append_assoc]; rfl⟩
    · have hz := of_decide_eq_false hb
      obtain rfl : i = 0 := by omega
      refine s_ext st rfl (st.at (ev_call2 (st.c.v 4 rfl) (st.c.v 1 rfl) ?_)) ?_ fun F H st => ⟨_, _, st, ?_⟩
      · exact ⟨hok, h2, h3⟩
      · omega
      · rw [hst]
        exact ⟨pl, Vl ((0 : Nat) : Int), Vl item, by simp [R.document]⟩
  · rintro F H σ Γ ⟨pl, s, t, rfl⟩ st
    rw [show (stock.zipIdx.map fun p => ((p.2 : Int), p.1)).length = stock.length by rw [List.length_map, List.length_zipIdx], List.take_length] at st
    obtain ⟨F, st⟩ := st.freeze 2 rfl
    exact s_retF st (st.c.v 2 rfl) rfl q
/-! ### chunks -/
abbrev st76 : Stmt := top 76
abbrev N76 : List Str := ["lines", "size", "at"]
theorem sc76 : FnScope N76 ["lines", "size"] (defScope st76) := ⟨rfl, rfl, rfl, by decide +kernel, rfl, by decide +kernel, by decide +kernel⟩
def p_chunks : (List (List Int)) → Int → Prop := fun l k => l.length ≤ 1000000 ∧ 1 ≤ k ∧ k ≤ 1000
set_option maxHeartbeats 4000000 in
theorem ok_chunks (e : Env K mg) : FnAt P w K mg "chunks" 1 ["lines", "size"] (Sp2 K p_chunks (R.chunks)) := by
  refine fn2 (e.defs 67 76 "chunks" rfl) sc76 rfl (fun _ _ _ _ _ _ us hu => match us, hu with | [_, _], _ => rfl) fun base f lines size hp cdv A outer s H E hr => ⟨_,
    (pss_one (ps_ret (pe_lc (own := [("at", 2)]) (g := gName 2) rfl sc76.nd (pi_range3 (by rfl) (e.free "range" (by decide)) (pa_cons pe_int (pa_cons (pe_callB (len_of (K := K) rfl) (by rfl) (e.free "len" (by decide)) boot_len (pa_cons (pv 0) pa_nil)) (pa_cons (pv 1) pa_nil)))) (blkOk_by (own := [("at", 2)]) (N := N76) (sc := defScope st76) (by decide +kernel)) (fun _ _ _ _ _ => (pg_name (i := 2) sc76.nd rfl (by first | exact .inl rfl | exact .inr rfl))) (fun _ _ _ _ _ => pts_nil) (fun _ _ _ _ _ => (pe_slice (sll_of (K := K) rfl) (pv 0) (po_some (pv 2)) (po_some (pe_op op_add (pv 2) (pv 1)))))))), fun F0 σ Q st q => ?_⟩
  have st : Ok K ⟨F0, H, F0⟩ F0 H σ [Vl lines, Vl size, .any] := st
  obtain ⟨h1, h2, h3⟩ := hp
  obtain ⟨k, rfl⟩ : ∃ k : Nat, size = (k : Int) := ⟨size.toNat, by omega⟩
  have hk : 0 < k := by omega
  have hlt : (lines.length + (k - 1)) / k ≤ lines.length := by
    have h := R.chunks_len lines k hk
    unfold R.chunks at h
    rw [List.length_map, List.length_range, Int.toNat_natCast] at h
    exact h
  refine s_retF st ((en_map st.c (ei_rng3 (k := ((lines.length + (k - 1)) / k)) ev_int (ev_len (st.c.v 0 rfl)) (st.c.v 1 rfl) ?_) ?_ (fun y F1 σ1 hy c => (en_cut (c.v 0 rfl) (eo_some (c.v 2 rfl)) (eo_some (ev_add (c.v 2 rfl) (c.v 1 rfl)))).ev))).ev ?_ q
  · exact rg_up (by omega) hk (by omega)
  · rw [List.length_map, List.length_range]
    omega
  · unfold R.chunks
    rw [List.map_map, Int.toNat_natCast]
    refine List.map_congr_left fun i _ => ?_
    have ec : (0 : Int) + (i : Int) * (k : Int) = ((i * k : Nat) : Int) := by rw [Int.natCast_mul]; omega
    show cut lines (some ((0 : Int) + (i : Int) * (k : Int))) (some ((0 : Int) + (i : Int) * (k : Int) + (k : Int))) = _
    rw [ec, cut_mid (by omega) (by omega), show (((i * k : Nat) : Int) + (k : Int)).toNat - ((i * k : Nat) : Int).toNat = k by omega, Int.toNat_natCast]
/-! ### divided -/
abbrev st77 : Stmt := top 77
abbrev N77 : List Str := ["kind", "lines", "height", "chunk"]
theorem sc77 : FnScope N77 ["kind", "lines", "height"] (defScope st77) := ⟨rfl, rfl, rfl, by decide +kernel, rfl, by decide +kernel, by decide +kernel⟩
def p_divided : Int → (List (List Int)) → Int → Prop := fun _ l h => l.length ≤ 100000 ∧ 5 ≤ h ∧ h ≤ 1000
set_option maxHeartbeats 4000000 in
theorem ok_divided (e : Env K mg) : FnAt P w K mg "divided" 2 ["kind", "lines", "height"] (Sp3 K p_divided (R.divided)) := by
  refine fn3 (e.defs 68 77 "divided" rfl) sc77 rfl (fun _ _ _ _ _ _ us hu => match us, hu with | [_, _, _], _ => rfl) fun base f kind lines height hp cdv A outer s H E hr => ⟨_,
    (pss_cons (ps_if (pt_cmpR op_ne (pv 0) pe_int (nomark _)) (pss_one (ps_ret (pe_fn (ok_chunks e) (hr.mono (by decide)) (by rfl) (pa_cons (pv 1) (pa_cons (pv 2) pa_nil)) pass0))) pss_nil)
      (pss_one (ps_ret (pe_lc (own := [("chunk", 3)]) (g := gName 3) rfl sc77.nd (pi_list (pe_fn (ok_chunks e) (hr.mono (by decide)) (by rfl) (pa_cons (pe_slice (sll_of (K := K) rfl) (pv 1) (po_some pe_int) po_none) (pa_cons (pe_op op_sub (pv 2) pe_int) pa_nil)) pass0)) (blkOk_by (own := [("chunk", 3)]) (N := N77) (sc := defScope st77) (by decide +kernel)) (fun _ _ _ _ _ => (pg_name (i := 3) sc77.nd rfl (by first | exact .inl rfl | exact .inr rfl))) (fun _ _ _ _ _ => pts_nil) (fun _ _ _ _ _ => (pe_op op_cat (pe_slice (sll_of (K := K) rfl) (pv 1) po_none (po_some pe_int)) (pv 3))))))), fun F0 σ Q st q => ?_⟩
  have st : Ok K ⟨F0, H, F0⟩ F0 H σ [Vl kind, Vl lines, Vl height, .any] := st
  obtain ⟨h1, h2, h3⟩ := hp
  refine q_if st (et_test (ev_ne (st.h.v 0 rfl) ev_int)) (fun hb F H st => ?_) (fun hb F H st => ?_)
  · refine s_retF st (ev_call2 (st.c.v 1 rfl) (st.c.v 2 rfl) ?_) ?_ q
    · exact ⟨by omega, by omega, by omega⟩
    · unfold R.divided
      rw [if_neg (by simpa using hb)]
  have hl : (R.chunks (lines.drop 3) (height - 3)).length ≤ 100000 := by
    have h := R.chunks_len (lines.drop 3) (height - 3).toNat (by omega)
    rw [show (((height - 3).toNat : Nat) : Int) = height - 3 by omega, List.length_drop] at h
    omega
  have ecut : cut lines (some 3) none = lines.drop 3 := cut_from (by decide)
  refine s_retF st (en_map st.c (ei_list (ev_call2 ((en_cut (st.c.v 1 rfl) (eo_some ev_int) eo_none).cast ecut).ev (ev_sub (st.c.v 2 rfl) ev_int) ?_)) ?_ (fun y F1 σ1 hy c => (en_cat (en_cut (c.v 1 rfl) eo_none (eo_some ev_int)).ev (c.v 3 rfl) ?_).ev)).ev ?_ q
  · refine ⟨?_, by omega, by omega⟩
    rw [List.length_drop]
    omega
  · omega
  · rw [cut_to (by decide), List.length_take]
    rw [show height - 3 = (((height - 3).toNat : Nat) : Int) by omega] at hy
    have := R.chunks_mem hy
    have : min (3 : Int).toNat lines.length ≤ 3 := Nat.min_le_left _ _
    omega
  · unfold R.divided
    rw [if_pos (by simpa using hb)]
    refine List.map_congr_left fun i _ => ?_
    rw [cut_to (by decide)]
    rfl
/-! ### finished -/
abbrev st78 : Stmt := top 78
abbrev N78 : List Str := ["done", "current"]
theorem sc78 : FnScope N78 ["done", "current"] (defScope st78) := ⟨rfl, rfl, rfl, by decide +kernel, rfl, by decide +kernel, by decide +kernel⟩
def p_finished : (List (List (List Int))) → (List (List Int)) → Prop := fun d _ => d.length ≤ 10000000
set_option maxHeartbeats 4000000 in
theorem ok_finished (e : Env K mg) : FnAt P w K mg "finished" 1 ["done", "current"] (Sp2 K p_finished (R.finished)) := by
  refine fn2 (e.defs 69 78 "finished" rfl) sc78 rfl (fun _ _ _ _ _ _ us hu => match us, hu with | [_, _], _ => rfl) fun base f done current hp cdv A outer s H E hr => ⟨_,
    (pss_cons (ps_if (pt_cmpR op_eq (pe_callB (len_of (K := K) rfl) (by rfl) (e.free "len" (by decide)) boot_len (pa_cons (pv 1) pa_nil)) pe_int (nomark _)) (pss_one (ps_ret (pv 0))) pss_nil)
      (pss_one (ps_ret (pe_op op_cat (pv 0) (pe_lst (pa_cons (pv 1) pa_nil)))))), fun F0 σ Q st q => ?_⟩
  have st : Ok K ⟨F0, H, F0⟩ F0 H σ [Vl done, Vl current] := st
  have hp : done.length ≤ 10000000 := hp
  refine q_if st (et_test (ev_eq (ev_len (st.h.v 1 rfl)) ev_int)) (fun hb F H st => ?_) (fun hb F H st => ?_)
  · refine s_retF st (st.c.v 0 rfl) ?_ q
    unfold R.finished
    rw [if_pos (by have := of_decide_eq_true hb; omega)]
  · refine s_retF st (en_cat (st.c.v 0 rfl) (en_one (st.c.v 1 rfl)).ev ?_).ev ?_ q
    · rw [List.length_singleton]; omega
    · unfold R.finished
      rw [if_neg (by have := of_decide_eq_false hb; omega)]
/-! ### put -/
abbrev st79 : Stmt := top 79
abbrev N79 : List Str := ["done", "current", "kind", "lines", "height", "before", "sheets"]
theorem sc79 : FnScope N79 ["done", "current", "kind", "lines", "height"] (defScope st79) := ⟨rfl, rfl, rfl, by decide +kernel, rfl, by decide +kernel, by decide +kernel⟩
def p_put : (List (List (List Int))) → (List (List Int)) → Int → (List (List Int)) → Int → Prop := fun d _ _ l h => d.length ≤ 1000000 ∧ l.length ≤ 100000 ∧ 5 ≤ h ∧ h ≤ 1000
set_option maxHeartbeats 4000000 in
theorem ok_put (e : Env K mg) : FnAt P w K mg "put" 3 ["done", "current", "kind", "lines", "height"] (Sp5 K p_put (R.put)) := by
  refine fn5 (e.defs 70 79 "put" rfl) sc79 rfl (fun _ _ _ _ _ _ us hu => match us, hu with | [_, _, _, _, _], _ => rfl) fun base f done current kind lines height hp cdv A outer s H E hr => ⟨_,
    (pss_cons (ps_if (PW.pt (pw_and (pt_cmpR op_eq (pe_callB (len_of (K := K) rfl) (by rfl) (e.free "len" (by decide)) boot_len (pa_cons (pv 1) pa_nil)) pe_int (nomark _)) (pw_and1 (pt_cmpR op_le (pe_callB (len_of (K := K) rfl) (by rfl) (e.free "len" (by decide)) boot_len (pa_cons (pv 3) pa_nil)) (pv 4) (nomark _))))) (pss_one (ps_ret (pe_tup (pa_cons (pv 0) (pa_cons (pv 3) pa_nil))))) pss_nil)
      (pss_cons (ps_if (PW.pt (pw_and (pt_cmpR op_gt (pe_callB (len_of (K := K) rfl) (by rfl) (e.free "len" (by decide)) boot_len (pa_cons (pv 1) pa_nil)) pe_int (nomark _)) (pw_and1 (pt_cmpR op_le (pe_op op_add (pe_op op_add (pe_callB (len_of (K := K) rfl) (by rfl) (e.free "len" (by decide)) boot_len (pa_cons (pv 1) pa_nil)) pe_int) (pe_callB (len_of (K := K) rfl) (by rfl) (e.free "len" (by decide)) boot_len (pa_cons (pv 3) pa_nil))) (pv 4) (nomark _))))) (pss_one (ps_ret (pe_tup (pa_cons (pv 0) (pa_cons (pe_op op_cat (pe_op op_cat (pv 1) (pe_lst (pa_cons (pe_lst pa_nil) pa_nil))) (pv 3)) pa_nil))))) pss_nil)
      (pss_cons (ps_set (i := 5) sc79.nd rfl (by first | exact .inl rfl | exact .inr rfl) (pe_fn (ok_finished e) (hr.mono (by decide)) (by rfl) (pa_cons (pv 0) (pa_cons (pv 1) pa_nil)) pass0))
      (pss_cons (ps_if (pt_cmpR op_le (pe_callB (len_of (K := K) rfl) (by rfl) (e.free "len" (by decide)) boot_len (pa_cons (pv 3) pa_nil)) (pv 4) (nomark _)) (pss_one (ps_ret (pe_tup (pa_cons (pv 5) (pa_cons (pv 3) pa_nil))))) pss_nil)
      (pss_cons (ps_set (i := 6) sc79.nd rfl (by first | exact .inl rfl | exact .inr rfl) (pe_fn (ok_divided e) (hr.mono (by decide)) (by rfl) (pa_cons (pv 2) (pa_cons (pv 3) (pa_cons (pv 4) pa_nil))) pass0))
      (pss_one (ps_ret (pe_tup (pa_cons (pe_op op_cat (pv 5) (pe_slice (sll_of (K := K) rfl) (pv 6) po_none (po_some (pe_un un_neg pe_int)))) (pa_cons (pe_ix (ixl_of (K := K) rfl) (pv 6) (pe_un un_neg pe_int) (fun _ _ => rfl)) pa_nil)))))))))), fun F0 σ Q st q => ?_⟩
  have st : Ok K ⟨F0, H, F0⟩ F0 H σ [Vl done, Vl current, Vl kind, Vl lines, Vl height, .any, .any] := st
  obtain ⟨h1, h2, h3, h4⟩ := hp
  have hf := R.finished_len done current
  refine q_if st (et_and (et_test (ev_eq (ev_len (st.h.v 1 rfl)) ev_int)) (fun hs => (et_test (ev_le (ev_len (st.h.v 3 rfl)) (st.h.v 4 rfl))))) (fun hb F H st => ?_) (fun hb F H st => ?_)
  · refine s_retF st (ev_pair (st.c.v 0 rfl) (st.c.v 3 rfl)) ?_ q
    rw [Bool.and_eq_true] at hb
    have b1 := of_decide_eq_true hb.1
    have b2 := of_decide_eq_true hb.2
    unfold R.put
    rw [if_pos ⟨by omega, b2⟩]
  have n1 : ¬ (current.length = 0 ∧ (lines.length : Int) ≤ height) := fun ⟨e1, e2⟩ => by
    rw [decide_eq_true (show (current.length : Int) = 0 by omega), decide_eq_true e2] at hb
    cases hb
  refine q_if st (et_and (et_test (ev_gt (ev_len (st.h.v 1 rfl)) ev_int)) (fun hs => (et_test (ev_le (ev_add (ev_add (ev_len (st.h.v 1 rfl)) ev_int) (ev_len (st.h.v 3 rfl))) (st.h.v 4 rfl))))) (fun hb F H st => ?_) (fun hb F H st => ?_)
  · rw [Bool.and_eq_true] at hb
    have b1 := of_decide_eq_true hb.1
    have b2 := of_decide_eq_true hb.2
    refine s_retF st (ev_pair (st.c.v 0 rfl) (en_cat (en_cat (st.c.v 1 rfl) (en_one (en_nil (α := Int)).ev).ev ?_).ev (st.c.v 3 rfl) ?_).ev) ?_ q
    · rw [List.length_singleton]; omega
    · rw [List.length_append, List.length_singleton]; omega
    · unfold R.put
      rw [if_neg n1, if_pos ⟨by omega, b2⟩]
  have n2 : ¬ (0 < current.length ∧ (current.length : Int) + 1 + lines.length ≤ height) := fun ⟨e1, e2⟩ => by
    rw [decide_eq_true (show (current.length : Int) > 0 by omega), decide_eq_true e2] at hb
    cases hb
  refine q_asg st (st.at (ev_call2 (st.c.v 0 rfl) (st.c.v 1 rfl) ?_)) fun F H σ st => ?_
  · show _ ≤ 10000000; omega
  have st : Ok K _ F H σ [Vl done, Vl current, Vl kind, Vl lines, Vl height, Vl (R.finished done current), .any] := st
  refine q_if st (et_test (ev_le (ev_len (st.h.v 3 rfl)) (st.h.v 4 rfl))) (fun hb F H st => ?_) (fun hb F H st => ?_)
  · refine s_retF st (ev_pair (st.c.v 5 rfl) (st.c.v 3 rfl)) ?_ q
    unfold R.put
    rw [if_neg n1, if_neg n2, if_pos (of_decide_eq_true hb)]
  have b3 := of_decide_eq_false hb
  have hd := R.divided_len (k := kind) (l := lines) h3
  have hne := R.divided_ne (k := kind) (l := lines) h3 (by omega)
  refine q_asg st (st.at (ev_call3 (st.c.v 2 rfl) (st.c.v 3 rfl) (st.c.v 4 rfl) ?_)) fun F H σ st => ?_
  · exact ⟨h2, h3, h4⟩
  have st : Ok K _ F H σ [Vl done, Vl current, Vl kind, Vl lines, Vl height, Vl (R.finished done current), Vl (R.divided kind lines height)] := st
  refine s_retF st (ev_pair (en_cat (st.c.v 5 rfl) (en_cut (st.c.v 6 rfl) eo_none (eo_some (ev_neg ev_int))).ev ?_).ev (ev_ix (x := ((R.divided kind lines height).getLastD [])) (st.c.v 6 rfl) (ev_neg ev_int) ?_)) ?_ q
  · rw [cut_all_but, List.length_dropLast]
    omega
  · refine atI_end ?_
    rw [← List.getLast?_eq_getElem?, List.getLastD_eq_getLast?, List.getLast?_eq_some_getLast hne]
    rfl
  · rw [cut_all_but]
    unfold R.put
    rw [if_neg n1, if_neg n2, if_neg b3]
/-! ### pages -/
abbrev st80 : Stmt := top 80
abbrev N80 : List Str := ["stock", "width", "height", "done", "current", "item"]
theorem sc80 : FnScope N80 ["stock", "width", "height"] (defScope st80) := ⟨rfl, rfl, rfl, by decide +kernel, rfl, by decide +kernel, by decide +kernel⟩
def p_pages : (List R.Item) → Int → Int → Prop := fun s w h => R.stockOk s ∧ 20 ≤ w ∧ w ≤ 1000 ∧ 5 ≤ h ∧ h ≤ 1000
set_option maxHeartbeats 4000000 in
theorem ok_pages (e : Env K mg) : FnAt P w K mg "pages" 10 ["stock", "width", "height"] (Sp3 K p_pages (R.pages)) := by
  refine fn3 (e.defs 71 80 "pages" rfl) sc80 rfl (fun _ _ _ _ _ _ us hu => match us, hu with | [_, _, _], _ => rfl) fun base f stock width height hp cdv A outer s H E hr => ⟨_,
    (pss_cons (ps_set (i := 3) sc80.nd rfl (by first | exact .inl rfl | exact .inr rfl) (pe_lst pa_nil))
      (pss_cons (ps_set (i := 4) sc80.nd rfl (by first | exact .inl rfl | exact .inr rfl) (pe_lst pa_nil))
      (pss_cons (ps_for PassesOwn.never rfl (pi_list (pv 0)) (pg_name (i := 5) sc80.nd rfl (by first | exact .inl rfl | exact .inr rfl)) (pss_one (ps_asg (pe_fn (ok_put e) (hr.mono (by decide)) (by rfl) (pa_cons (pv 3) (pa_cons (pv 4) (pa_cons (pe_ix (ixt_of (K := K) rfl) (pv 5) pe_int (fun _ _ => rfl)) (pa_cons (pe_fn (ok_item_lines e) (hr.mono (by decide)) (by rfl) (pa_cons (pv 5) (pa_cons (pv 1) pa_nil)) pass0) (pa_cons (pv 2) pa_nil))))) pass0) (pg_tup rfl (pgs_cons (pg_name (i := 3) sc80.nd rfl (by first | exact .inl rfl | exact .inr rfl)) (pgs_cons (pg_name (i := 4) sc80.nd rfl (by first | exact .inl rfl | exact .inr rfl)) pgs_nil))))))
      (pss_one (ps_ret (pe_fn (ok_finished e) (hr.mono (by decide)) (by rfl) (pa_cons (pv 3) (pa_cons (pv 4) pa_nil)) pass0)))))), fun F0 σ Q st q => ?_⟩
  have st : Ok K ⟨F0, H, F0⟩ F0 H σ [Vl stock, Vl width, Vl height, .any, .any, .any] := st
  obtain ⟨⟨h0, h1⟩, h2, h3, h4, h5⟩ := hp
  refine q_asg st (st.at (en_nil (α := (List (List Int)))).ev) fun F H σ st => ?_
  refine q_asg st (st.at (en_nil (α := (List Int))).ev) fun F H σ st => ?_
  refine q_for st (ei_list (st.c.v 0 rfl)) (fun y => g_name) (fun i Γ => ∃ s, Γ = [Vl stock, Vl width, Vl height, Vl (R.pagesGo (stock.take i) width height).1, Vl (R.pagesGo (stock.take i) width height).2, s]) ⟨_, rfl⟩ ?_ ?_
  · rintro G i item F H σ Γ hb ⟨s, rfl⟩ st
    have hok := h1 item (List.mem_of_getElem? hb)
    have hil := R.item_len hok h2
    have htk : ∀ x ∈ stock.take i, R.itemOk x := fun x hx => h1 x (List.mem_of_mem_take hx)
    have hdl := R.pagesGo_len (w := width) (h := height) h2 h4 _ htk
    have htl : (stock.take i).length ≤ 12 := by rw [List.length_take]; omega
    have hdl : (R.pagesGo (stock.take i) width height).1.length ≤ 600012 := Nat.le_trans hdl (Nat.le_trans (Nat.mul_le_mul_right _ htl) (by decide))
    have hst : R.pagesGo (stock.take (i + 1)) width height = R.pageStep width height (R.pagesGo (stock.take i) width height) item := by
      unfold R.pagesGo
      rw [List.take_add_one, hb, List.foldl_append]
      rfl
    generalize R.pagesGo (stock.take i) width height = z at st hdl hst
    have st : Ok K _ F H σ [Vl stock, Vl width, Vl height, Vl z.1, Vl z.2, Vl item] := st
    refine s_asgG st (st.at (ev_call5 (st.c.v 3 rfl) (st.c.v 4 rfl) (ev_kind (st.c.v 5 rfl) ev_int) (ev_call2 (st.c.v 5 rfl) (st.c.v 1 rfl) ?_) (st.c.v 2 rfl) ?_)) g_pair fun F H σ st => ⟨_, _, st, ?_⟩
    · exact ⟨hok, h2, h3⟩
    · exact ⟨by omega, by omega, h4, h5⟩
    · rw [hst]
      exact ⟨_, rfl⟩
  · rintro F H σ Γ ⟨s, rfl⟩ st
    rw [List.take_length] at st
    have hdl := R.pagesGo_len (w := width) (h := height) h2 h4 _ h1
    have hdl : (R.pagesGo stock width height).1.length ≤ 600012 := Nat.le_trans hdl (Nat.le_trans (Nat.mul_le_mul_right _ h0) (by decide))
    refine s_retF st (ev_call2 (st.c.v 3 rfl) (st.c.v 4 rfl) ?_) rfl q
    show _ ≤ 10000000
    omega
end
end Wk
end
section
set_option Elab.async false
set_option linter.all false
set_option maxRecDepth 100000
set_option maxHeartbeats 4000000
/-! The walk, printed by wip/g/gen.py. -/
namespace Wk
open PySem PySem.Spec PyProof.Rows L2 Ty
open Rep (rep)
section
variable {w : World} {K : Fg} {mg : Str → Option Value}
/-! ### refused -/
abbrev st83 : Stmt := top 83
abbrev N83 : List Str := ["code"]
theorem sc83 : FnScope N83 ["code"] (defScope st83) := ⟨rfl, rfl, rfl, by decide +kernel, rfl, by decide +kernel, by decide +kernel⟩
def p_refused : Int → Prop := fun _ => True
set_option maxHeartbeats 4000000 in
theorem ok_refused (e : Env K mg) : FnAt P w K mg "refused" 1 ["code"] (Sp1 K p_refused (R.refused)) := by
  refine fn1 (e.defs 72 83 "refused" rfl) sc83 rfl (fun _ _ _ _ _ _ us hu => match us, hu with | [_], _ => rfl) fun base f code hp cdv A outer s H E hr => ⟨_,
    (pss_one (ps_ret (pe_tup (pa_cons (pv 0) (pa_cons (pe_tup (pa_cons pe_int (pa_cons pe_int (pa_cons (pe_lst pa_nil) pa_nil)))) pa_nil))))), fun F0 σ Q st q => ?_⟩
  have st : Ok K ⟨F0, H, F0⟩ F0 H σ [Vl code] := st
  exact s_retF st (ev_pair (st.c.v 0 rfl) (as_head (ev_t3 ev_int ev_int en_nil.ev))) rfl q
/-! ### new_heading -/
abbrev st84 : Stmt := top 84
abbrev N84 : List Str := ["level", "text"]
theorem sc84 : FnScope N84 ["level", "text"] (defScope st84) := ⟨rfl, rfl, rfl, by decide +kernel, rfl, by decide +kernel, by decide +kernel⟩
def p_new_heading : Int → (List Int) → Prop := fun _ _ => True
set_option maxHeartbeats 4000000 in
theorem ok_new_heading (e : Env K mg) : FnAt P w K mg "new_heading" 3 ["level", "text"] (Sp2 K p_new_heading (R.newHeading)) := by
  refine fn2 (e.defs 73 84 "new_heading" rfl) sc84 rfl (fun _ _ _ _ _ _ us hu => match us, hu with | [_, _], _ => rfl) fun base f level text hp cdv A outer s H E hr => ⟨_,
    (pss_cons (ps_if (PW.pt (pw_or (pt_cmpR op_lt (pv 0) pe_int (nomark _)) (pw_or1 (pt_cmpR op_gt (pv 0) pe_int (nomark _))))) (pss_one (ps_ret (pe_fn (ok_refused e) (hr.mono (by decide)) (by rfl) (pa_cons (pe_un un_neg pe_int) pa_nil) pass0))) pss_nil)
      (pss_cons (ps_if (pt_not (pt_val (pe_fn (ok_is_text e) (hr.mono (by decide)) (by rfl) (pa_cons (pv 1) pa_nil) pass0))) (pss_one (ps_ret (pe_fn (ok_refused e) (hr.mono (by decide)) (by rfl) (pa_cons (pe_un un_neg pe_int) pa_nil) pass0))) pss_nil)
      (pss_one (ps_ret (pe_tup (pa_cons pe_int (pa_cons (pe_tup (pa_cons pe_int (pa_cons (pv 0) (pa_cons (pv 1) pa_nil)))) pa_nil))))))), fun F0 σ Q st q => ?_⟩
  have st : Ok K ⟨F0, H, F0⟩ F0 H σ [Vl level, Vl text] := st
  refine q_if st (et_or (et_test (ev_lt (st.h.v 0 rfl) ev_int)) (fun hs => (et_test (ev_gt (st.h.v 0 rfl) ev_int)))) (fun hb F H st => ?_) (fun hb F H st => ?_)
  · refine s_retF st (ev_call1 (ev_neg ev_int) ?_) ?_ q
    · trivial
    · unfold R.newHeading
      rw [if_pos (by simpa using hb)]
  have n1 : ¬ (level < 1 ∨ 3 < level) := by simpa using hb
  refine q_if st (et_not (et_B (ev_call1 (st.h.v 1 rfl) ?_))) (fun hb F H st => ?_) (fun hb F H st => ?_)
  · trivial
  · refine s_retF st (ev_call1 (ev_neg ev_int) ?_) ?_ q
    · trivial
    · unfold R.newHeading
      rw [if_neg n1, if_pos (by simpa using hb)]
  · refine s_retF st (ev_pair ev_int (as_head (ev_t3 ev_int (st.c.v 0 rfl) (st.c.v 1 rfl)))) ?_ q
    unfold R.newHeading
    rw [if_neg n1, if_neg (by simpa using hb)]
/-! ### new_paragraph -/
abbrev st85 : Stmt := top 85
abbrev N85 : List Str := ["text"]
theorem sc85 : FnScope N85 ["text"] (defScope st85) := ⟨rfl, rfl, rfl, by decide +kernel, rfl, by decide +kernel, by decide +kernel⟩
def p_new_paragraph : (List Int) → Prop := fun _ => True
set_option maxHeartbeats 4000000 in
theorem ok_new_paragraph (e : Env K mg) : FnAt P w K mg "new_paragraph" 3 ["text"] (Sp1 K p_new_paragraph (R.newParagraph)) := by
  refine fn1 (e.defs 74 85 "new_paragraph" rfl) sc85 rfl (fun _ _ _ _ _ _ us hu => match us, hu with | [_], _ => rfl) fun base f text hp cdv A outer s H E hr => ⟨_,
    (pss_cons (ps_if (pt_not (pt_val (pe_fn (ok_is_text e) (hr.mono (by decide)) (by rfl) (pa_cons (pv 0) pa_nil) pass0))) (pss_one (ps_ret (pe_fn (ok_refused e) (hr.mono (by decide)) (by rfl) (pa_cons (pe_un un_neg pe_int) pa_nil) pass0))) pss_nil)
      (pss_one (ps_ret (pe_tup (pa_cons pe_int (pa_cons (pe_tup (pa_cons pe_int (pa_cons pe_int (pa_cons (pv 0) pa_nil)))) pa_nil)))))), fun F0 σ Q st q => ?_⟩
  have st : Ok K ⟨F0, H, F0⟩ F0 H σ [Vl text] := st
  refine q_if st (et_not (et_B (ev_call1 (st.h.v 0 rfl) ?_))) (fun hb F H st => ?_) (fun hb F H st => ?_)
  · trivial
  · refine s_retF st (ev_call1 (ev_neg ev_int) ?_) ?_ q
    · trivial
    · unfold R.newParagraph
      rw [if_pos (by simpa using hb)]
  · refine s_retF st (ev_pair ev_int (as_para (ev_t3 ev_int ev_int (st.c.v 0 rfl)))) ?_ q
    unfold R.newParagraph
    rw [if_neg (by simpa using hb)]
/-! ### new_table -/
abbrev st86 : Stmt := top 86
abbrev N86 : List Str := ["columns", "numbers", "valid", "cells", "cell"]
theorem sc86 : FnScope N86 ["columns", "numbers"] (defScope st86) := ⟨rfl, rfl, rfl, by decide +kernel, rfl, by decide +kernel, by decide +kernel⟩
def p_new_table : Int → (List Int) → Prop := fun _ l => l.length ≤ 1000000
set_option maxHeartbeats 4000000 in
theorem ok_new_table (e : Env K mg) : FnAt P w K mg "new_table" 5 ["columns", "numbers"] (Sp2 K p_new_table (R.newTable)) := by
  refine fn2 (e.defs 75 86 "new_table" rfl) sc86 rfl (fun _ _ _ _ _ _ us hu => match us, hu with | [_, _], _ => rfl) fun base f columns numbers hp cdv A outer s H E hr => ⟨_,
    (pss_cons (ps_if (PW.pt (pw_or (pt_cmpR op_lt (pv 0) pe_int (nomark _)) (pw_or1 (pt_cmpR op_gt (pv 0) pe_int (nomark _))))) (pss_one (ps_ret (pe_fn (ok_refused e) (hr.mono (by decide)) (by rfl) (pa_cons (pe_un un_neg pe_int) pa_nil) pass0))) pss_nil)
      (pss_cons (ps_asg (pe_fn (ok_decoded e) (hr.mono (by decide)) (by rfl) (pa_cons (pv 1) pa_nil) pass0) (pg_tup rfl (pgs_cons (pg_name (i := 2) sc86.nd rfl (by first | exact .inl rfl | exact .inr rfl)) (pgs_cons (pg_name (i := 3) sc86.nd rfl (by first | exact .inl rfl | exact .inr rfl)) pgs_nil))))
      (pss_cons (ps_if (pt_not (pt_val (pv 2))) (pss_one (ps_ret (pe_fn (ok_refused e) (hr.mono (by decide)) (by rfl) (pa_cons (pe_un un_neg pe_int) pa_nil) pass0))) pss_nil)
      (pss_cons (ps_if (PW.pt (pw_or (pt_cmpR op_eq (pe_callB (len_of (K := K) rfl) (by rfl) (e.free "len" (by decide)) boot_len (pa_cons (pv 3) pa_nil)) pe_int (nomark _)) (pw_or (pt_cmpR op_ne (pe_op op_modN (pe_callB (len_of (K := K) rfl) (by rfl) (e.free "len" (by decide)) boot_len (pa_cons (pv 3) pa_nil)) (pv 0)) pe_int (nomark _)) (pw_or1 (pt_cmpR op_gt (pe_callB (len_of (K := K) rfl) (by rfl) (e.free "len" (by decide)) boot_len (pa_cons (pv 3) pa_nil)) (pe_op op_mul pe_int (pv 0)) (nomark _)))))) (pss_one (ps_ret (pe_fn (ok_refused e) (hr.mono (by decide)) (by rfl) (pa_cons (pe_un un_neg pe_int) pa_nil) pass0))) pss_nil)
      (pss_cons (ps_if (pt_val (pe_callB (cr_any rfl) (by rfl) (e.free "any" (by decide)) (by decide +kernel) (pa_cons (pe_lc (own := [("cell", 4)]) (g := gName 4) rfl sc86.nd (pi_list (pe_slice (sll_of (K := K) rfl) (pv 3) po_none (po_some (pv 0)))) (blkOk_by (own := [("cell", 4)]) (N := N86) (sc := defScope st86) (by decide +kernel)) (fun _ _ _ _ _ => (pg_name (i := 4) sc86.nd rfl (by first | exact .inl rfl | exact .inr rfl))) (fun _ _ _ _ _ => pts_nil) (fun _ _ _ _ _ => (pe_fn (ok_is_number e) (hr.mono (by decide)) (by rfl) (pa_cons (pv 4) pa_nil) pass0))) pa_nil))) (pss_one (ps_ret (pe_fn (ok_refused e) (hr.mono (by decide)) (by rfl) (pa_cons (pe_un un_neg pe_int) pa_nil) pass0))) pss_nil)
      (pss_one (ps_ret (pe_tup (pa_cons pe_int (pa_cons (pe_tup (pa_cons pe_int (pa_cons (pv 0) (pa_cons (pv 3) pa_nil)))) pa_nil)))))))))), fun F0 σ Q st q => ?_⟩
  have st : Ok K ⟨F0, H, F0⟩ F0 H σ [Vl columns, Vl numbers, .any, .any, .any] := st
  have hp : numbers.length ≤ 1000000 := hp
  refine q_if st (et_or (et_test (ev_lt (st.h.v 0 rfl) ev_int)) (fun hs => (et_test (ev_gt (st.h.v 0 rfl) ev_int)))) (fun hb F H st => ?_) (fun hb F H st => ?_)
  · refine s_retF st (ev_call1 (ev_neg ev_int) ?_) ?_ q
    · trivial
    · unfold R.newTable
      rw [if_pos (by simpa using hb)]
  have n1 : ¬ (columns < 1 ∨ 8 < columns) := by simpa using hb
  have eq0 : R.newTable columns numbers = if (R.decoded numbers).1 = false then R.refused (-5)
    else if (R.decoded numbers).2.length = 0 ∨ ¬ (((R.decoded numbers).2.length : Int) % columns = 0) ∨ 25 * columns < ((R.decoded numbers).2.length : Int) then R.refused (-6)
    else if ((R.decoded numbers).2.take columns.toNat).any R.isNumber = true then R.refused (-5)
    else (0, .tab columns (R.decoded numbers).2) := if_neg n1
  refine q_asgG st (st.at (ev_call1 (st.c.v 1 rfl) ?_)) g_pair fun F H σ st => ?_
  · exact hp
  have st : Ok K _ F H σ [Vl columns, Vl numbers, Vl (R.decoded numbers).1, Vl (R.decoded numbers).2, .any] := st
  generalize R.decoded numbers = z at st eq0
  obtain ⟨valid, cells⟩ := z
  have st : Ok K _ F H σ [Vl columns, Vl numbers, Vl valid, Vl cells, .any] := st
  refine q_if st (et_not (et_B (st.h.v 2 rfl))) (fun hb F H st => ?_) (fun hb F H st => ?_)
  · refine s_retF st (ev_call1 (ev_neg ev_int) ?_) ?_ q
    · trivial
    · rw [eq0, if_pos (by simpa using hb)]
  rw [if_neg (by simpa using hb)] at eq0
  refine q_if st (et_or (et_test (ev_eq (ev_len (st.h.v 3 rfl)) ev_int)) (fun hs => (et_or (et_test (ev_ne (ev_mod (ev_len (st.h.v 3 rfl)) (st.h.v 0 rfl) ?_) ev_int)) (fun hs => (et_test (ev_gt (ev_len (st.h.v 3 rfl)) (ev_mul ev_int (st.h.v 0 rfl) ?_))))))) (fun hb F H st => ?_) (fun hb F H st => ?_)
  · omega
  · exact cmul_l (by omega)
  · refine s_retF st (ev_call1 (ev_neg ev_int) ?_) ?_ q
    · trivial
    · rw [eq0, if_pos (by simpa using hb)]
  rw [if_neg (by simpa using hb)] at eq0
  have hcl : ((cells.length : Int)) ≤ 200 := by
    simp at hb
    omega
  have eany : ((cut cells none (some columns)).map fun y => R.isNumber y).any id = (cells.take columns.toNat).any R.isNumber := by
    rw [cut_to (by omega), List.any_map]
    rfl
  refine q_if st (et_B (ev_any (en_map st.h (ei_list (en_cut (st.h.v 3 rfl) eo_none (eo_some (st.h.v 0 rfl))).ev) ?_ (fun y F1 σ1 hy c => (ev_call1 (c.v 4 rfl) ?_))).ev)) (fun hb F H st => ?_) (fun hb F H st => ?_)
  · rw [cut_to (by omega), List.length_take]
    omega
  · trivial
  · refine s_retF st (ev_call1 (ev_neg ev_int) ?_) ?_ q
    · trivial
    · rw [eq0, if_pos (by rw [← eany]; exact hb)]
  · refine s_retF st (ev_pair ev_int (as_tab (ev_t3 ev_int (st.c.v 0 rfl) (st.c.v 3 rfl)))) ?_ q
    rw [eq0, if_neg (by rw [← eany, hb]; decide)]
/-! ### new_plot -/
abbrev st87 : Stmt := top 87
abbrev N87 : List Str := ["height", "coordinates", "number"]
theorem sc87 : FnScope N87 ["height", "coordinates"] (defScope st87) := ⟨rfl, rfl, rfl, by decide +kernel, rfl, by decide +kernel, by decide +kernel⟩
def p_new_plot : Int → (List Int) → Prop := fun _ _ => True
set_option maxHeartbeats 4000000 in
theorem ok_new_plot (e : Env K mg) : FnAt P w K mg "new_plot" 2 ["height", "coordinates"] (Sp2 K p_new_plot (R.newPlot)) := by
  obtain ⟨tB, hB⟩ := e.big
  refine fn2 (e.defs 76 87 "new_plot" rfl) sc87 rfl (fun _ _ _ _ _ _ us hu => match us, hu with | [_, _], _ => rfl) fun base f height coordinates hp cdv A outer s H E hr => ⟨_,
    (pss_cons (ps_if (PW.pt (pw_or (pt_cmpR op_lt (pv 0) pe_int (nomark _)) (pw_or1 (pt_cmpR op_gt (pv 0) pe_int (nomark _))))) (pss_one (ps_ret (pe_fn (ok_refused e) (hr.mono (by decide)) (by rfl) (pa_cons (pe_un un_neg pe_int) pa_nil) pass0))) pss_nil)
      (pss_cons (ps_if (PW.pt (pw_or (pt_cmpR op_ne (pe_op op_modN (pe_callB (len_of (K := K) rfl) (by rfl) (e.free "len" (by decide)) boot_len (pa_cons (pv 1) pa_nil)) pe_int) pe_int (nomark _)) (pw_or1 (pt_cmpR op_gt (pe_callB (len_of (K := K) rfl) (by rfl) (e.free "len" (by decide)) boot_len (pa_cons (pv 1) pa_nil)) pe_int (nomark _))))) (pss_one (ps_ret (pe_fn (ok_refused e) (hr.mono (by decide)) (by rfl) (pa_cons (pe_un un_neg pe_int) pa_nil) pass0))) pss_nil)
      (pss_cons (ps_if (pt_val (pe_callB (cr_any rfl) (by rfl) (e.free "any" (by decide)) (by decide +kernel) (pa_cons (pe_lc (own := [("number", 2)]) (g := gName 2) rfl sc87.nd (pi_list (pv 1)) (blkOk_by (own := [("number", 2)]) (N := N87) (sc := defScope st87) (by decide +kernel)) (fun _ _ _ _ _ => (pg_name (i := 2) sc87.nd rfl (by first | exact .inl rfl | exact .inr rfl))) (fun _ _ _ _ _ => pts_nil) (fun _ _ _ _ _ => (pe_or (pe_cmpR op_le (pv 2) (pe_un un_neg (pe_glob (v := .int 1000000000000000000) (by rfl) hB ⟨_, rfl⟩)) (nomark _)) (pe_one (pe_cmpR op_ge (pv 2) (pe_glob (v := .int 1000000000000000000) (by rfl) hB ⟨_, rfl⟩) (nomark _)))))) pa_nil))) (pss_one (ps_ret (pe_fn (ok_refused e) (hr.mono (by decide)) (by rfl) (pa_cons (pe_un un_neg pe_int) pa_nil) pass0))) pss_nil)
      (pss_one (ps_ret (pe_tup (pa_cons pe_int (pa_cons (pe_tup (pa_cons pe_int (pa_cons (pv 0) (pa_cons (pv 1) pa_nil)))) pa_nil)))))))), fun F0 σ Q st q => ?_⟩
  have st : Ok K ⟨F0, H, F0⟩ F0 H σ [Vl height, Vl coordinates, .any] := st
  refine q_if st (et_or (et_test (ev_lt (st.h.v 0 rfl) ev_int)) (fun hs => (et_test (ev_gt (st.h.v 0 rfl) ev_int)))) (fun hb F H st => ?_) (fun hb F H st => ?_)
  · refine s_retF st (ev_call1 (ev_neg ev_int) ?_) ?_ q
    · trivial
    · unfold R.newPlot
      rw [if_pos (by simpa using hb)]
  have n1 : ¬ (height < 3 ∨ 40 < height) := by simpa using hb
  refine q_if st (et_or (et_test (ev_ne (ev_mod (ev_len (st.h.v 1 rfl)) ev_int ?_) ev_int)) (fun hs => (et_test (ev_gt (ev_len (st.h.v 1 rfl)) ev_int)))) (fun hb F H st => ?_) (fun hb F H st => ?_)
  · decide
  · refine s_retF st (ev_call1 (ev_neg ev_int) ?_) ?_ q
    · trivial
    · unfold R.newPlot
      rw [if_neg n1, if_pos (by simpa using hb)]
  have n2 : ¬ (¬ ((coordinates.length : Int) % 2 = 0) ∨ 120 < (coordinates.length : Int)) := by simpa using hb
  have eany : (coordinates.map fun y => decide (y ≤ -1000000000000000000) || decide (y ≥ 1000000000000000000)).any id = coordinates.any (fun n => decide (n ≤ -R.big) || decide (R.big ≤ n)) := by
    rw [List.any_map]
    rfl
  refine q_if st (et_B (ev_any (en_map st.h (ei_list (st.h.v 1 rfl)) ?_ (fun y F1 σ1 hy c => (ev_or (ev_le (c.v 2 rfl) (ev_neg ev_int)) (fun hs => (ev_ge (c.v 2 rfl) ev_int))))).ev)) (fun hb F H st => ?_) (fun hb F H st => ?_)
  · omega
  · refine s_retF st (ev_call1 (ev_neg ev_int) ?_) ?_ q
    · trivial
    · unfold R.newPlot
      rw [if_neg n1, if_neg n2, if_pos (by rw [← eany]; exact hb)]
  · refine s_retF st (ev_pair ev_int (as_plot (ev_t3 ev_int (st.c.v 0 rfl) (st.c.v 1 rfl)))) ?_ q
    unfold R.newPlot
    rw [if_neg n1, if_neg n2, if_neg (by rw [← eany]; intro e; rw [e] at hb; cases hb)]
/-! ### new_check -/
abbrev st88 : Stmt := top 88
abbrev N88 : List Str := ["passed", "text"]
theorem sc88 : FnScope N88 ["passed", "text"] (defScope st88) := ⟨rfl, rfl, rfl, by decide +kernel, rfl, by decide +kernel, by decide +kernel⟩
def p_new_check : Int → (List Int) → Prop := fun _ _ => True
set_option maxHeartbeats 4000000 in
theorem ok_new_check (e : Env K mg) : FnAt P w K mg "new_check" 3 ["passed", "text"] (Sp2 K p_new_check (R.newCheck)) := by
  refine fn2 (e.defs 77 88 "new_check" rfl) sc88 rfl (fun _ _ _ _ _ _ us hu => match us, hu with | [_, _], _ => rfl) fun base f passed text hp cdv A outer s H E hr => ⟨_,
    (pss_cons (ps_if (PW.pt (pw_and (pt_cmpR op_ne (pv 0) pe_int (nomark _)) (pw_and1 (pt_cmpR op_ne (pv 0) pe_int (nomark _))))) (pss_one (ps_ret (pe_fn (ok_refused e) (hr.mono (by decide)) (by rfl) (pa_cons (pe_un un_neg pe_int) pa_nil) pass0))) pss_nil)
      (pss_cons (ps_if (pt_not (pt_val (pe_fn (ok_is_text e) (hr.mono (by decide)) (by rfl) (pa_cons (pv 1) pa_nil) pass0))) (pss_one (ps_ret (pe_fn (ok_refused e) (hr.mono (by decide)) (by rfl) (pa_cons (pe_un un_neg pe_int) pa_nil) pass0))) pss_nil)
      (pss_one (ps_ret (pe_tup (pa_cons pe_int (pa_cons (pe_tup (pa_cons pe_int (pa_cons (pv 0) (pa_cons (pv 1) pa_nil)))) pa_nil))))))), fun F0 σ Q st q => ?_⟩
  have st : Ok K ⟨F0, H, F0⟩ F0 H σ [Vl passed, Vl text] := st
  refine q_if st (et_and (et_test (ev_ne (st.h.v 0 rfl) ev_int)) (fun hs => (et_test (ev_ne (st.h.v 0 rfl) ev_int)))) (fun hb F H st => ?_) (fun hb F H st => ?_)
  · refine s_retF st (ev_call1 (ev_neg ev_int) ?_) ?_ q
    · trivial
    · unfold R.newCheck
      rw [if_pos (by simpa using hb)]
  have n1 : ¬ (¬ passed = 0 ∧ ¬ passed = 1) := fun ⟨e1, e2⟩ => by
    rw [decide_eq_false e1, decide_eq_false e2] at hb
    cases hb
  refine q_if st (et_not (et_B (ev_call1 (st.h.v 1 rfl) ?_))) (fun hb F H st => ?_) (fun hb F H st => ?_)
  · trivial
  · refine s_retF st (ev_call1 (ev_neg ev_int) ?_) ?_ q
    · trivial
    · unfold R.newCheck
      rw [if_neg n1, if_pos (by simpa using hb)]
  · refine s_retF st (ev_pair ev_int (as_check (ev_t3 ev_int (st.c.v 0 rfl) (st.c.v 1 rfl)))) ?_ q
    unfold R.newCheck
    rw [if_neg n1, if_neg (by simpa using hb)]
/-! ### new_bars -/
abbrev st89 : Stmt := top 89
abbrev N89 : List Str := ["numbers", "valid", "cells", "cell"]
theorem sc89 : FnScope N89 ["numbers"] (defScope st89) := ⟨rfl, rfl, rfl, by decide +kernel, rfl, by decide +kernel, by decide +kernel⟩
def p_new_bars : (List Int) → Prop := fun l => l.length ≤ 1000000
set_option maxHeartbeats 4000000 in
theorem ok_new_bars (e : Env K mg) : FnAt P w K mg "new_bars" 5 ["numbers"] (Sp1 K p_new_bars (R.newBars)) := by
  obtain ⟨tB, hB⟩ := e.big
  refine fn1 (e.defs 78 89 "new_bars" rfl) sc89 rfl (fun _ _ _ _ _ _ us hu => match us, hu with | [_], _ => rfl) fun base f numbers hp cdv A outer s H E hr => ⟨_,
    (pss_cons (ps_asg (pe_fn (ok_decoded e) (hr.mono (by decide)) (by rfl) (pa_cons (pv 0) pa_nil) pass0) (pg_tup rfl (pgs_cons (pg_name (i := 1) sc89.nd rfl (by first | exact .inl rfl | exact .inr rfl)) (pgs_cons (pg_name (i := 2) sc89.nd rfl (by first | exact .inl rfl | exact .inr rfl)) pgs_nil))))
      (pss_cons (ps_if (pt_not (pt_val (pv 1))) (pss_one (ps_ret (pe_fn (ok_refused e) (hr.mono (by decide)) (by rfl) (pa_cons (pe_un un_neg pe_int) pa_nil) pass0))) pss_nil)
      (pss_cons (ps_if (PW.pt (pw_or (pt_cmpR op_ne (pe_op op_modN (pe_callB (len_of (K := K) rfl) (by rfl) (e.free "len" (by decide)) boot_len (pa_cons (pv 2) pa_nil)) pe_int) pe_int (nomark _)) (pw_or1 (pt_cmpR op_gt (pe_callB (len_of (K := K) rfl) (by rfl) (e.free "len" (by decide)) boot_len (pa_cons (pv 2) pa_nil)) pe_int (nomark _))))) (pss_one (ps_ret (pe_fn (ok_refused e) (hr.mono (by decide)) (by rfl) (pa_cons (pe_un un_neg pe_int) pa_nil) pass0))) pss_nil)
      (pss_cons (ps_if (PW.pt (pw_or (pt_val (pe_callB (cr_any rfl) (by rfl) (e.free "any" (by decide)) (by decide +kernel) (pa_cons (pe_lc (own := [("cell", 3)]) (g := gName 3) rfl sc89.nd (pi_list (pe_stride (pv 2) pe_int pe_int)) (blkOk_by (own := [("cell", 3)]) (N := N89) (sc := defScope st89) (by decide +kernel)) (fun _ _ _ _ _ => (pg_name (i := 3) sc89.nd rfl (by first | exact .inl rfl | exact .inr rfl))) (fun _ _ _ _ _ => pts_nil) (fun _ _ _ _ _ => (pe_fn (ok_is_number e) (hr.mono (by decide)) (by rfl) (pa_cons (pv 3) pa_nil) pass0))) pa_nil))) (pw_or1 (pt_not (pt_val (pe_callB (cr_all rfl) (by rfl) (e.free "all" (by decide)) (by decide +kernel) (pa_cons (pe_lc (own := [("cell", 3)]) (g := gName 3) rfl sc89.nd (pi_list (pe_stride (pv 2) pe_int pe_int)) (blkOk_by (own := [("cell", 3)]) (N := N89) (sc := defScope st89) (by decide +kernel)) (fun _ _ _ _ _ => (pg_name (i := 3) sc89.nd rfl (by first | exact .inl rfl | exact .inr rfl))) (fun _ _ _ _ _ => pts_nil) (fun _ _ _ _ _ => (pe_fn (ok_is_number e) (hr.mono (by decide)) (by rfl) (pa_cons (pv 3) pa_nil) pass0))) pa_nil))))))) (pss_one (ps_ret (pe_fn (ok_refused e) (hr.mono (by decide)) (by rfl) (pa_cons (pe_un un_neg pe_int) pa_nil) pass0))) pss_nil)
      (pss_cons (ps_if (pt_val (pe_callB (cr_any rfl) (by rfl) (e.free "any" (by decide)) (by decide +kernel) (pa_cons (pe_lc (own := [("cell", 3)]) (g := gName 3) rfl sc89.nd (pi_list (pe_stride (pv 2) pe_int pe_int)) (blkOk_by (own := [("cell", 3)]) (N := N89) (sc := defScope st89) (by decide +kernel)) (fun _ _ _ _ _ => (pg_name (i := 3) sc89.nd rfl (by first | exact .inl rfl | exact .inr rfl))) (fun _ _ _ _ _ => pts_nil) (fun _ _ _ _ _ => (pe_or (pe_cmpR op_lt (pe_ix (ixt_of (K := K) rfl) (pv 3) pe_int (fun _ _ => rfl)) pe_int (nomark _)) (pe_one (pe_cmpR op_ge (pe_ix (ixt_of (K := K) rfl) (pv 3) pe_int (fun _ _ => rfl)) (pe_glob (v := .int 1000000000000000000) (by rfl) hB ⟨_, rfl⟩) (nomark _)))))) pa_nil))) (pss_one (ps_ret (pe_fn (ok_refused e) (hr.mono (by decide)) (by rfl) (pa_cons (pe_un un_neg pe_int) pa_nil) pass0))) pss_nil)
      (pss_one (ps_ret (pe_tup (pa_cons pe_int (pa_cons (pe_tup (pa_cons pe_int (pa_cons pe_int (pa_cons (pv 2) pa_nil)))) pa_nil)))))))))), fun F0 σ Q st q => ?_⟩
  have st : Ok K ⟨F0, H, F0⟩ F0 H σ [Vl numbers, .any, .any, .any] := st
  have hp : numbers.length ≤ 1000000 := hp
  have eq0 : R.newBars numbers = if (R.decoded numbers).1 = false then R.refused (-5)
    else if ¬ (((R.decoded numbers).2.length : Int) % 2 = 0) ∨ 40 < ((R.decoded numbers).2.length : Int) then R.refused (-6)
    else if (R.stride 0 2 (R.decoded numbers).2).any R.isNumber = true ∨ (R.stride 1 2 (R.decoded numbers).2).all R.isNumber = false then R.refused (-5)
    else if (R.stride 1 2 (R.decoded numbers).2).any (fun c => decide (c.b < 0) || decide (R.big ≤ c.b)) = true then R.refused (-9)
    else (0, .bars (R.decoded numbers).2) := rfl
  refine q_asgG st (st.at (ev_call1 (st.c.v 0 rfl) ?_)) g_pair fun F H σ st => ?_
  · exact hp
  have st : Ok K _ F H σ [Vl numbers, Vl (R.decoded numbers).1, Vl (R.decoded numbers).2, .any] := st
  generalize R.decoded numbers = z at st eq0
  obtain ⟨valid, cells⟩ := z
  have st : Ok K _ F H σ [Vl numbers, Vl valid, Vl cells, .any] := st
  refine q_if st (et_not (et_B (st.h.v 1 rfl))) (fun hb F H st => ?_) (fun hb F H st => ?_)
  · refine s_retF st (ev_call1 (ev_neg ev_int) ?_) ?_ q
    · trivial
    · rw [eq0, if_pos (by simpa using hb)]
  rw [if_neg (by simpa using hb)] at eq0
  refine q_if st (et_or (et_test (ev_ne (ev_mod (ev_len (st.h.v 2 rfl)) ev_int ?_) ev_int)) (fun hs => (et_test (ev_gt (ev_len (st.h.v 2 rfl)) ev_int)))) (fun hb F H st => ?_) (fun hb F H st => ?_)
  · decide
  · refine s_retF st (ev_call1 (ev_neg ev_int) ?_) ?_ q
    · trivial
    · rw [eq0, if_pos (by simpa using hb)]
  rw [if_neg (by simpa using hb)] at eq0
  have hcl : cells.length ≤ 40 := by
    rw [Bool.or_eq_false_iff] at hb
    have := of_decide_eq_false hb.2
    omega
  have t1 := R.stride_le 0 2 cells (by decide)
  have t2 := R.stride_le 1 2 cells (by decide)
  have ea : ((R.stride 0 2 cells).map fun y => R.isNumber y).any id = (R.stride 0 2 cells).any R.isNumber := List.any_map
  have eb : ((R.stride 1 2 cells).map fun y => R.isNumber y).all id = (R.stride 1 2 cells).all R.isNumber := List.all_map
  have ec : ((R.stride 1 2 cells).map fun y => decide (y.b < 0) || decide (y.b ≥ 1000000000000000000)).any id = (R.stride 1 2 cells).any (fun c => decide (c.b < 0) || decide (R.big ≤ c.b)) := List.any_map
  refine q_if st (et_or (et_B (ev_any (en_map st.h (ei_list (en_stride (st.h.v 2 rfl) ev_int ev_int ?_ ?_).ev) ?_ (fun y F1 σ1 hy c => (ev_call1 (c.v 3 rfl) ?_))).ev)) (fun hs => (et_not (et_B (ev_all (en_map st.h (ei_list (en_stride (st.h.v 2 rfl) ev_int ev_int ?_ ?_).ev) ?_ (fun y F1 σ1 hy c => (ev_call1 (c.v 3 rfl) ?_))).ev))))) (fun hb F H st => ?_) (fun hb F H st => ?_)
  · decide
  · decide
  · exact Nat.le_trans t1 (by omega)
  · trivial
  · decide
  · decide
  · exact Nat.le_trans t2 (by omega)
  · trivial
  · refine s_retF st (ev_call1 (ev_neg ev_int) ?_) ?_ q
    · trivial
    · rw [eq0, if_pos]
      rw [← ea, ← eb]
      rcases Bool.or_eq_true_iff.mp hb with h | h
      · exact .inl h
      · have h2 : (!((R.stride 1 2 cells).map fun y => R.isNumber y).all id) = true := h
        rw [Bool.not_eq_true'] at h2
        exact .inr h2
  rw [Bool.or_eq_false_iff] at hb
  have hb1 : ((R.stride 0 2 cells).map fun y => R.isNumber y).any id = false := hb.1
  have hb2 : (!((R.stride 1 2 cells).map fun y => R.isNumber y).all id) = false := hb.2
  rw [if_neg (by
    rw [← ea, ← eb]
    rintro (h | h)
    · rw [h] at hb1; cases hb1
    · rw [h] at hb2; cases hb2)] at eq0
  refine q_if st (et_B (ev_any (en_map st.h (ei_list (en_stride (st.h.v 2 rfl) ev_int ev_int ?_ ?_).ev) ?_ (fun y F1 σ1 hy c => (ev_or (ev_lt (ev_t3b (c.v 3 rfl) ev_int) ev_int) (fun hs => (ev_ge (ev_t3b (c.v 3 rfl) ev_int) ev_int))))).ev)) (fun hb F H st => ?_) (fun hb F H st => ?_)
  · decide
  · decide
  · exact Nat.le_trans t2 (by omega)
  · refine s_retF st (ev_call1 (ev_neg ev_int) ?_) ?_ q
    · trivial
    · rw [eq0, if_pos (by rw [← ec]; exact hb)]
  · refine s_retF st (ev_pair ev_int (as_bars (ev_t3 ev_int ev_int (st.c.v 2 rfl)))) ?_ q
    have hb3 : ((R.stride 1 2 cells).map fun y => decide (y.b < 0) || decide (y.b ≥ 1000000000000000000)).any id = false := hb
    rw [eq0, if_neg (by rw [← ec]; intro e; rw [e] at hb3; cases hb3)]
/-! ### new_table_from -/
abbrev st90 : Stmt := top 90
abbrev N90 : List Str := ["text", "columns", "cells"]
theorem sc90 : FnScope N90 ["text"] (defScope st90) := ⟨rfl, rfl, rfl, by decide +kernel, rfl, by decide +kernel, by decide +kernel⟩
def p_new_table_from : (List Int) → Prop := fun l => l.length ≤ 99000
set_option maxHeartbeats 4000000 in
theorem ok_new_table_from (e : Env K mg) : FnAt P w K mg "new_table_from" 10 ["text"] (Sp1 K p_new_table_from (R.newTableFrom)) := by
  refine fn1 (e.defs 79 90 "new_table_from" rfl) sc90 rfl (fun _ _ _ _ _ _ us hu => match us, hu with | [_], _ => rfl) fun base f text hp cdv A outer s H E hr => ⟨_,
    (pss_cons (ps_asg (pe_fn (ok_table_read e) (hr.mono (by decide)) (by rfl) (pa_cons (pv 0) pa_nil) pass0) (pg_tup rfl (pgs_cons (pg_name (i := 1) sc90.nd rfl (by first | exact .inl rfl | exact .inr rfl)) (pgs_cons (pg_name (i := 2) sc90.nd rfl (by first | exact .inl rfl | exact .inr rfl)) pgs_nil))))
      (pss_cons (ps_if (pt_cmpR op_eq (pv 1) pe_int (nomark _)) (pss_one (ps_ret (pe_fn (ok_refused e) (hr.mono (by decide)) (by rfl) (pa_cons (pe_un un_neg pe_int) pa_nil) pass0))) pss_nil)
      (pss_one (ps_ret (pe_tup (pa_cons pe_int (pa_cons (pe_tup (pa_cons pe_int (pa_cons (pv 1) (pa_cons (pv 2) pa_nil)))) pa_nil))))))), fun F0 σ Q st q => ?_⟩
  have st : Ok K ⟨F0, H, F0⟩ F0 H σ [Vl text, .any, .any] := st
  refine q_asgG st (st.at (ev_call1 (st.c.v 0 rfl) ?_)) g_pair fun F H σ st => ?_
  · exact hp
  have st : Ok K _ F H σ [Vl text, Vl (R.tableRead text).1, Vl (R.tableRead text).2] := st
  refine q_if st (et_test (ev_eq (st.h.v 1 rfl) ev_int)) (fun hb F H st => ?_) (fun hb F H st => ?_)
  · refine s_retF st (ev_call1 (ev_neg ev_int) ?_) ?_ q
    · trivial
    · exact (if_pos (of_decide_eq_true hb)).symm
  · exact s_retF st (ev_pair ev_int (as_tab (ev_t3 ev_int (st.c.v 1 rfl) (st.c.v 2 rfl)))) (if_neg (of_decide_eq_false hb)).symm q
/-! ### new_item -/
abbrev st91 : Stmt := top 91
abbrev N91 : List Str := ["call", "numbers", "given"]
theorem sc91 : FnScope N91 ["call", "numbers", "given"] (defScope st91) := ⟨rfl, rfl, rfl, by decide +kernel, rfl, by decide +kernel, by decide +kernel⟩
def p_new_item : Int → (List Int) → (List Int) → Prop := fun c n g => R.arity c ≤ n.length ∧ g.length ≤ 99000
set_option maxHeartbeats 4000000 in
theorem ok_new_item (e : Env K mg) : FnAt P w K mg "new_item" 11 ["call", "numbers", "given"] (Sp3 K p_new_item (R.newItem)) := by
  refine fn3 (e.defs 80 91 "new_item" rfl) sc91 rfl (fun _ _ _ _ _ _ us hu => match us, hu with | [_, _, _], _ => rfl) fun base f call numbers given hp cdv A outer s H E hr => ⟨_,
    (pss_cons (ps_if (pt_cmpR op_eq (pv 0) pe_int (nomark _)) (pss_one (ps_ret (pe_fn (ok_new_heading e) (hr.mono (by decide)) (by rfl) (pa_cons (pe_ix (ixl_of (K := K) rfl) (pv 1) pe_int (fun _ _ => rfl)) (pa_cons (pv 2) pa_nil)) pass0))) pss_nil)
      (pss_cons (ps_if (pt_cmpR op_eq (pv 0) pe_int (nomark _)) (pss_one (ps_ret (pe_fn (ok_new_paragraph e) (hr.mono (by decide)) (by rfl) (pa_cons (pv 2) pa_nil) pass0))) pss_nil)
      (pss_cons (ps_if (pt_cmpR op_eq (pv 0) pe_int (nomark _)) (pss_one (ps_ret (pe_fn (ok_new_table e) (hr.mono (by decide)) (by rfl) (pa_cons (pe_ix (ixl_of (K := K) rfl) (pv 1) pe_int (fun _ _ => rfl)) (pa_cons (pv 2) pa_nil)) pass0))) pss_nil)
      (pss_cons (ps_if (pt_cmpR op_eq (pv 0) pe_int (nomark _)) (pss_one (ps_ret (pe_fn (ok_new_plot e) (hr.mono (by decide)) (by rfl) (pa_cons (pe_ix (ixl_of (K := K) rfl) (pv 1) pe_int (fun _ _ => rfl)) (pa_cons (pv 2) pa_nil)) pass0))) pss_nil)
      (pss_cons (ps_if (pt_cmpR op_eq (pv 0) pe_int (nomark _)) (pss_one (ps_ret (pe_fn (ok_new_check e) (hr.mono (by decide)) (by rfl) (pa_cons (pe_ix (ixl_of (K := K) rfl) (pv 1) pe_int (fun _ _ => rfl)) (pa_cons (pv 2) pa_nil)) pass0))) pss_nil)
      (pss_cons (ps_if (pt_cmpR op_eq (pv 0) pe_int (nomark _)) (pss_one (ps_ret (pe_fn (ok_new_bars e) (hr.mono (by decide)) (by rfl) (pa_cons (pv 2) pa_nil) pass0))) pss_nil)
      (pss_one (ps_ret (pe_fn (ok_new_table_from e) (hr.mono (by decide)) (by rfl) (pa_cons (pv 2) pa_nil) pass0))))))))), fun F0 σ Q st q => ?_⟩
  have st : Ok K ⟨F0, H, F0⟩ F0 H σ [Vl call, Vl numbers, Vl given] := st
  obtain ⟨h1, h2⟩ := hp
  refine q_if st (et_test (ev_eq (st.h.v 0 rfl) ev_int)) (fun hb F H st => ?_) (fun hb F H st => ?_)
  · obtain rfl : call = 0 := of_decide_eq_true hb
    refine s_retF st (ev_call2 (ev_ix (x := (R.num numbers 0)) (st.c.v 1 rfl) ev_int ?_) (st.c.v 2 rfl) ?_) rfl q
    · have : 1 ≤ numbers.length := h1
      exact atD (by decide) (by omega)
    · trivial
  have n0 := of_decide_eq_false hb
  refine q_if st (et_test (ev_eq (st.h.v 0 rfl) ev_int)) (fun hb F H st => ?_) (fun hb F H st => ?_)
  · obtain rfl : call = 1 := of_decide_eq_true hb
    refine s_retF st (ev_call1 (st.c.v 2 rfl) ?_) rfl q
    · trivial
  have n1 := of_decide_eq_false hb
  refine q_if st (et_test (ev_eq (st.h.v 0 rfl) ev_int)) (fun hb F H st => ?_) (fun hb F H st => ?_)
  · obtain rfl : call = 2 := of_decide_eq_true hb
    refine s_retF st (ev_call2 (ev_ix (x := (R.num numbers 0)) (st.c.v 1 rfl) ev_int ?_) (st.c.v 2 rfl) ?_) rfl q
    · have : 1 ≤ numbers.length := h1
      exact atD (by decide) (by omega)
    · show _ ≤ 1000000
      omega
  have n2 := of_decide_eq_false hb
  refine q_if st (et_test (ev_eq (st.h.v 0 rfl) ev_int)) (fun hb F H st => ?_) (fun hb F H st => ?_)
  · obtain rfl : call = 3 := of_decide_eq_true hb
    refine s_retF st (ev_call2 (ev_ix (x := (R.num numbers 0)) (st.c.v 1 rfl) ev_int ?_) (st.c.v 2 rfl) ?_) rfl q
    · have : 1 ≤ numbers.length := h1
      exact atD (by decide) (by omega)
    · trivial
  have n3 := of_decide_eq_false hb
  refine q_if st (et_test (ev_eq (st.h.v 0 rfl) ev_int)) (fun hb F H st => ?_) (fun hb F H st => ?_)
  · obtain rfl : call = 4 := of_decide_eq_true hb
    refine s_retF st (ev_call2 (ev_ix (x := (R.num numbers 0)) (st.c.v 1 rfl) ev_int ?_) (st.c.v 2 rfl) ?_) rfl q
    · have : 1 ≤ numbers.length := h1
      exact atD (by decide) (by omega)
    · trivial
  have n4 := of_decide_eq_false hb
  refine q_if st (et_test (ev_eq (st.h.v 0 rfl) ev_int)) (fun hb F H st => ?_) (fun hb F H st => ?_)
  · obtain rfl : call = 5 := of_decide_eq_true hb
    refine s_retF st (ev_call1 (st.c.v 2 rfl) ?_) rfl q
    · show _ ≤ 1000000
      omega
  have n5 := of_decide_eq_false hb
  refine s_retF st (ev_call1 (st.c.v 2 rfl) ?_) ?_ q
  · exact h2
  · unfold R.newItem
    rw [if_neg n0, if_neg n1, if_neg n2, if_neg n3, if_neg n4, if_neg n5]
/-! ### added -/
abbrev st92 : Stmt := top 92
abbrev N92 : List Str := ["stock", "call", "numbers", "given", "code", "item"]
theorem sc92 : FnScope N92 ["stock", "call", "numbers", "given"] (defScope st92) := ⟨rfl, rfl, rfl, by decide +kernel, rfl, by decide +kernel, by decide +kernel⟩
def p_added : (List R.Item) → Int → (List Int) → (List Int) → Prop := fun s c n g => s.length ≤ 1000 ∧ R.arity c ≤ n.length ∧ g.length ≤ 99000
set_option maxHeartbeats 4000000 in
theorem ok_added (e : Env K mg) : FnAt P w K mg "added" 12 ["stock", "call", "numbers", "given"] (Sp4 K p_added (R.added)) := by
  refine fn4 (e.defs 81 92 "added" rfl) sc92 rfl (fun _ _ _ _ _ _ us hu => match us, hu with | [_, _, _, _], _ => rfl) fun base f stock call numbers given hp cdv A outer s H E hr => ⟨_,
    (pss_cons (ps_if (pt_cmpR op_ge (pe_callB (len_of (K := K) rfl) (by rfl) (e.free "len" (by decide)) boot_len (pa_cons (pv 0) pa_nil)) pe_int (nomark _)) (pss_one (ps_ret (pe_tup (pa_cons (pv 0) (pa_cons (pe_lst (pa_cons (pe_un un_neg pe_int) pa_nil)) pa_nil))))) pss_nil)
      (pss_cons (ps_asg (pe_fn (ok_new_item e) (hr.mono (by decide)) (by rfl) (pa_cons (pv 1) (pa_cons (pv 2) (pa_cons (pv 3) pa_nil))) pass0) (pg_tup rfl (pgs_cons (pg_name (i := 4) sc92.nd rfl (by first | exact .inl rfl | exact .inr rfl)) (pgs_cons (pg_name (i := 5) sc92.nd rfl (by first | exact .inl rfl | exact .inr rfl)) pgs_nil))))
      (pss_cons (ps_if (pt_cmpR op_lt (pv 4) pe_int (nomark _)) (pss_one (ps_ret (pe_tup (pa_cons (pv 0) (pa_cons (pe_lst (pa_cons (pv 4) pa_nil)) pa_nil))))) pss_nil)
      (pss_one (ps_ret (pe_tup (pa_cons (pe_op op_cat (pv 0) (pe_lst (pa_cons (pv 5) pa_nil))) (pa_cons (pe_lst (pa_cons (pe_callB (len_of (K := K) rfl) (by rfl) (e.free "len" (by decide)) boot_len (pa_cons (pv 0) pa_nil)) pa_nil)) pa_nil)))))))), fun F0 σ Q st q => ?_⟩
  have st : Ok K ⟨F0, H, F0⟩ F0 H σ [Vl stock, Vl call, Vl numbers, Vl given, .any, .any] := st
  obtain ⟨h1, h2, h3⟩ := hp
  refine q_if st (et_test (ev_ge (ev_len (st.h.v 0 rfl)) ev_int)) (fun hb F H st => ?_) (fun hb F H st => ?_)
  · exact s_retF st (ev_pair (st.c.v 0 rfl) (en_one (ev_neg ev_int)).ev) (if_pos (of_decide_eq_true hb)).symm q
  have n1 := of_decide_eq_false hb
  refine q_asgG st (st.at (ev_call3 (st.c.v 1 rfl) (st.c.v 2 rfl) (st.c.v 3 rfl) ?_)) g_pair fun F H σ st => ?_
  · exact ⟨h2, h3⟩
  have st : Ok K _ F H σ [Vl stock, Vl call, Vl numbers, Vl given, Vl (R.newItem call numbers given).1, Vl (R.newItem call numbers given).2] := st
  refine q_if st (et_test (ev_lt (st.h.v 4 rfl) ev_int)) (fun hb F H st => ?_) (fun hb F H st => ?_)
  · exact s_retF st (ev_pair (st.c.v 0 rfl) (en_one (st.c.v 4 rfl)).ev) ((if_neg n1).trans (if_pos (of_decide_eq_true hb))).symm q
  · refine s_retF st (ev_pair (en_cat (st.c.v 0 rfl) (en_one (st.c.v 5 rfl)).ev ?_).ev (en_one (ev_len (st.c.v 0 rfl))).ev) ((if_neg n1).trans (if_neg (of_decide_eq_false hb))).symm q
    rw [List.length_singleton]
    omega
/-! ### is_missing -/
abbrev st93 : Stmt := top 93
abbrev N93 : List Str := ["stock", "index"]
theorem sc93 : FnScope N93 ["stock", "index"] (defScope st93) := ⟨rfl, rfl, rfl, by decide +kernel, rfl, by decide +kernel, by decide +kernel⟩
def p_is_missing : (List R.Item) → Int → Prop := fun _ _ => True
set_option maxHeartbeats 4000000 in
theorem ok_is_missing (e : Env K mg) : FnAt P w K mg "is_missing" 1 ["stock", "index"] (Sp2 K p_is_missing (R.isMissing)) := by
  refine fn2 (e.defs 82 93 "is_missing" rfl) sc93 rfl (fun _ _ _ _ _ _ us hu => match us, hu with | [_, _], _ => rfl) fun base f stock index hp cdv A outer s H E hr => ⟨_,
    (pss_one (ps_ret (pe_or (pe_cmpR op_lt (pv 1) pe_int (nomark _)) (pe_one (pe_cmpR op_ge (pv 1) (pe_callB (len_of (K := K) rfl) (by rfl) (e.free "len" (by decide)) boot_len (pa_cons (pv 0) pa_nil)) (nomark _)))))), fun F0 σ Q st q => ?_⟩
  have st : Ok K ⟨F0, H, F0⟩ F0 H σ [Vl stock, Vl index] := st
  exact s_retF st (ev_or (ev_lt (st.c.v 1 rfl) ev_int) (fun hs => (ev_ge (st.c.v 1 rfl) (ev_len (st.c.v 0 rfl))))) rfl q
/-! ### is_no_width -/
abbrev st94 : Stmt := top 94
abbrev N94 : List Str := ["width"]
theorem sc94 : FnScope N94 ["width"] (defScope st94) := ⟨rfl, rfl, rfl, by decide +kernel, rfl, by decide +kernel, by decide +kernel⟩
def p_is_no_width : Int → Prop := fun _ => True
set_option maxHeartbeats 4000000 in
theorem ok_is_no_width (e : Env K mg) : FnAt P w K mg "is_no_width" 1 ["width"] (Sp1 K p_is_no_width (R.isNoWidth)) := by
  refine fn1 (e.defs 83 94 "is_no_width" rfl) sc94 rfl (fun _ _ _ _ _ _ us hu => match us, hu with | [_], _ => rfl) fun base f width hp cdv A outer s H E hr => ⟨_,
    (pss_one (ps_ret (pe_or (pe_cmpR op_lt (pv 0) pe_int (nomark _)) (pe_one (pe_cmpR op_gt (pv 0) pe_int (nomark _)))))), fun F0 σ Q st q => ?_⟩
  have st : Ok K ⟨F0, H, F0⟩ F0 H σ [Vl width] := st
  exact s_retF st (ev_or (ev_lt (st.c.v 0 rfl) ev_int) (fun hs => (ev_gt (st.c.v 0 rfl) ev_int))) rfl q
/-! ### table_error -/
abbrev st95 : Stmt := top 95
abbrev N95 : List Str := ["stock", "index"]
theorem sc95 : FnScope N95 ["stock", "index"] (defScope st95) := ⟨rfl, rfl, rfl, by decide +kernel, rfl, by decide +kernel, by decide +kernel⟩
def p_table_error : (List R.Item) → Int → Prop := fun _ _ => True
set_option maxHeartbeats 4000000 in
theorem ok_table_error (e : Env K mg) : FnAt P w K mg "table_error" 2 ["stock", "index"] (Sp2 K p_table_error (R.tableError)) := by
  refine fn2 (e.defs 84 95 "table_error" rfl) sc95 rfl (fun _ _ _ _ _ _ us hu => match us, hu with | [_, _], _ => rfl) fun base f stock index hp cdv A outer s H E hr => ⟨_,
    (pss_cons (ps_if (pt_val (pe_fn (ok_is_missing e) (hr.mono (by decide)) (by rfl) (pa_cons (pv 0) (pa_cons (pv 1) pa_nil)) pass0)) (pss_one (ps_ret (pe_un un_neg pe_int))) pss_nil)
      (pss_cons (ps_if (pt_cmpR op_ne (pe_ix (ixt_of (K := K) rfl) (pe_ix (ixl_of (K := K) rfl) (pv 0) (pv 1) (fun _ _ => rfl)) pe_int (fun _ _ => rfl)) pe_int (nomark _)) (pss_one (ps_ret (pe_un un_neg pe_int))) pss_nil)
      (pss_one (ps_ret pe_int)))), fun F0 σ Q st q => ?_⟩
  have st : Ok K ⟨F0, H, F0⟩ F0 H σ [Vl stock, Vl index] := st
  refine q_if st (et_B (ev_call2 (st.h.v 0 rfl) (st.h.v 1 rfl) ?_)) (fun hb F H st => ?_) (fun hb F H st => ?_)
  · trivial
  · exact s_retF st (ev_neg ev_int) (if_pos hb).symm q
  have hm := hb
  refine q_if st (et_test (ev_ne (ev_kind (ev_ix (x := (R.itemOf stock index)) (st.h.v 0 rfl) (st.h.v 1 rfl) ?_) ev_int) ev_int)) (fun hb F H st => ?_) (fun hb F H st => ?_)
  · exact atS hm
  · exact s_retF st (ev_neg ev_int) ((if_neg (by rw [hm]; decide)).trans (if_pos (by simpa using hb))).symm q
  · exact s_retF st ev_int ((if_neg (by rw [hm]; decide)).trans (if_neg (by simpa using hb))).symm q
/-! ### removed -/
abbrev st96 : Stmt := top 96
abbrev N96 : List Str := ["stock", "index"]
theorem sc96 : FnScope N96 ["stock", "index"] (defScope st96) := ⟨rfl, rfl, rfl, by decide +kernel, rfl, by decide +kernel, by decide +kernel⟩
def p_removed : (List R.Item) → Int → Prop := fun s _ => s.length ≤ 1000
set_option maxHeartbeats 4000000 in
theorem ok_removed (e : Env K mg) : FnAt P w K mg "removed" 2 ["stock", "index"] (Sp2 K p_removed (R.removed)) := by
  refine fn2 (e.defs 85 96 "removed" rfl) sc96 rfl (fun _ _ _ _ _ _ us hu => match us, hu with | [_, _], _ => rfl) fun base f stock index hp cdv A outer s H E hr => ⟨_,
    (pss_cons (ps_if (pt_val (pe_fn (ok_is_missing e) (hr.mono (by decide)) (by rfl) (pa_cons (pv 0) (pa_cons (pv 1) pa_nil)) pass0)) (pss_one (ps_ret (pe_tup (pa_cons (pe_un un_neg pe_int) (pa_cons (pv 0) pa_nil))))) pss_nil)
      (pss_one (ps_ret (pe_tup (pa_cons pe_int (pa_cons (pe_op op_cat (pe_slice (sll_of (K := K) rfl) (pv 0) po_none (po_some (pv 1))) (pe_slice (sll_of (K := K) rfl) (pv 0) (po_some (pe_op op_add (pv 1) pe_int)) po_none)) pa_nil)))))), fun F0 σ Q st q => ?_⟩
  have st : Ok K ⟨F0, H, F0⟩ F0 H σ [Vl stock, Vl index] := st
  have hp : stock.length ≤ 1000 := hp
  refine q_if st (et_B (ev_call2 (st.h.v 0 rfl) (st.h.v 1 rfl) ?_)) (fun hb F H st => ?_) (fun hb F H st => ?_)
  · trivial
  · exact s_retF st (ev_pair (ev_neg ev_int) (st.c.v 0 rfl)) (if_pos hb).symm q
  obtain ⟨i1, i2⟩ := R.missing_false hb
  refine s_retF st (ev_pair ev_int (en_cat (en_cut (st.c.v 0 rfl) eo_none (eo_some (st.c.v 1 rfl))).ev (en_cut (st.c.v 0 rfl) (eo_some (ev_add (st.c.v 1 rfl) ev_int)) eo_none).ev ?_).ev) ?_ q
  · rw [cut_to i1, cut_from (by omega), List.length_take, List.length_drop]
    omega
  · rw [cut_to i1, cut_from (by omega)]
    exact (if_neg (by rw [hb]; decide)).symm
/-! ### moved -/
abbrev st97 : Stmt := top 97
abbrev N97 : List Str := ["stock", "index", "target", "rest"]
theorem sc97 : FnScope N97 ["stock", "index", "target"] (defScope st97) := ⟨rfl, rfl, rfl, by decide +kernel, rfl, by decide +kernel, by decide +kernel⟩
def p_moved : (List R.Item) → Int → Int → Prop := fun s _ _ => s.length ≤ 1000
set_option maxHeartbeats 4000000 in
theorem ok_moved (e : Env K mg) : FnAt P w K mg "moved" 2 ["stock", "index", "target"] (Sp3 K p_moved (R.moved)) := by
  refine fn3 (e.defs 86 97 "moved" rfl) sc97 rfl (fun _ _ _ _ _ _ us hu => match us, hu with | [_, _, _], _ => rfl) fun base f stock index target hp cdv A outer s H E hr => ⟨_,
    (pss_cons (ps_if (PW.pt (pw_or (pt_val (pe_fn (ok_is_missing e) (hr.mono (by decide)) (by rfl) (pa_cons (pv 0) (pa_cons (pv 1) pa_nil)) pass0)) (pw_or1 (pt_val (pe_fn (ok_is_missing e) (hr.mono (by decide)) (by rfl) (pa_cons (pv 0) (pa_cons (pv 2) pa_nil)) pass0))))) (pss_one (ps_ret (pe_tup (pa_cons (pe_un un_neg pe_int) (pa_cons (pv 0) pa_nil))))) pss_nil)
      (pss_cons (ps_set (i := 3) sc97.nd rfl (by first | exact .inl rfl | exact .inr rfl) (pe_op op_cat (pe_slice (sll_of (K := K) rfl) (pv 0) po_none (po_some (pv 1))) (pe_slice (sll_of (K := K) rfl) (pv 0) (po_some (pe_op op_add (pv 1) pe_int)) po_none)))
      (pss_one (ps_ret (pe_tup (pa_cons pe_int (pa_cons (pe_op op_cat (pe_op op_cat (pe_slice (sll_of (K := K) rfl) (pv 3) po_none (po_some (pv 2))) (pe_lst (pa_cons (pe_ix (ixl_of (K := K) rfl) (pv 0) (pv 1) (fun _ _ => rfl)) pa_nil))) (pe_slice (sll_of (K := K) rfl) (pv 3) (po_some (pv 2)) po_none)) pa_nil))))))), fun F0 σ Q st q => ?_⟩
  have st : Ok K ⟨F0, H, F0⟩ F0 H σ [Vl stock, Vl index, Vl target, .any] := st
  have hp : stock.length ≤ 1000 := hp
  refine q_if st (et_or (et_B (ev_call2 (st.h.v 0 rfl) (st.h.v 1 rfl) ?_)) (fun hs => (et_B (ev_call2 (st.h.v 0 rfl) (st.h.v 2 rfl) ?_)))) (fun hb F H st => ?_) (fun hb F H st => ?_)
  · trivial
  · trivial
  · exact s_retF st (ev_pair (ev_neg ev_int) (st.c.v 0 rfl)) (if_pos (Bool.or_eq_true_iff.mp hb)).symm q
  rw [Bool.or_eq_false_iff] at hb
  obtain ⟨i1, i2⟩ := R.missing_false hb.1
  obtain ⟨j1, j2⟩ := R.missing_false hb.2
  have e0 : cut stock none (some index) ++ cut stock (some (index + 1)) none = stock.take index.toNat ++ stock.drop (index + 1).toNat := by
    rw [cut_to i1, cut_from (by omega)]
  have l0 : (stock.take index.toNat ++ stock.drop (index + 1).toNat).length ≤ 1000 := by
    rw [List.length_append, List.length_take, List.length_drop]
    omega
  refine q_asg st (st.at (((en_cat (en_cut (st.c.v 0 rfl) eo_none (eo_some (st.c.v 1 rfl))).ev (en_cut (st.c.v 0 rfl) (eo_some (ev_add (st.c.v 1 rfl) ev_int)) eo_none).ev ?_)).cast e0).ev) fun F H σ st => ?_
  · rw [cut_to i1, cut_from (by omega), List.length_take, List.length_drop]
    omega
  have er : R.moved stock index target = (0, (stock.take index.toNat ++ stock.drop (index + 1).toNat).take target.toNat ++ [R.itemOf stock index] ++ (stock.take index.toNat ++ stock.drop (index + 1).toNat).drop target.toNat) := if_neg (by
    rw [hb.1, hb.2]
    rintro (h | h)
    · cases h
    · cases h)
  generalize stock.take index.toNat ++ stock.drop (index + 1).toNat = rest at st l0 er
  have st : Ok K _ F H σ [Vl stock, Vl index, Vl target, Vl rest] := st
  refine s_retF st (ev_pair ev_int (en_cat (en_cat (en_cut (st.c.v 3 rfl) eo_none (eo_some (st.c.v 2 rfl))).ev (en_one (ev_ix (x := (R.itemOf stock index)) (st.c.v 0 rfl) (st.c.v 1 rfl) ?_)).ev ?_).ev (en_cut (st.c.v 3 rfl) (eo_some (st.c.v 2 rfl)) eo_none).ev ?_).ev) ?_ q
  · exact atS hb.1
  · rw [cut_to j1, List.length_take, List.length_singleton]
    omega
  · rw [cut_to j1, cut_from j1, List.length_append, List.length_take, List.length_singleton, List.length_drop]
    omega
  · rw [cut_to j1, cut_from j1, er]
/-! ### with_table -/
abbrev st98 : Stmt := top 98
abbrev N98 : List Str := ["stock", "index", "columns", "cells"]
theorem sc98 : FnScope N98 ["stock", "index", "columns", "cells"] (defScope st98) := ⟨rfl, rfl, rfl, by decide +kernel, rfl, by decide +kernel, by decide +kernel⟩
def p_with_table : (List R.Item) → Int → Int → (List R.Cell) → Prop := fun s i _ _ => s.length ≤ 1000 ∧ 0 ≤ i
set_option maxHeartbeats 4000000 in
theorem ok_with_table (e : Env K mg) : FnAt P w K mg "with_table" 1 ["stock", "index", "columns", "cells"] (Sp4 K p_with_table (R.withTable)) := by
  refine fn4 (e.defs 87 98 "with_table" rfl) sc98 rfl (fun _ _ _ _ _ _ us hu => match us, hu with | [_, _, _, _], _ => rfl) fun base f stock index columns cells hp cdv A outer s H E hr => ⟨_,
    (pss_one (ps_ret (pe_op op_cat (pe_op op_cat (pe_slice (sll_of (K := K) rfl) (pv 0) po_none (po_some (pv 1))) (pe_lst (pa_cons (pe_tup (pa_cons pe_int (pa_cons (pv 2) (pa_cons (pv 3) pa_nil)))) pa_nil))) (pe_slice (sll_of (K := K) rfl) (pv 0) (po_some (pe_op op_add (pv 1) pe_int)) po_none)))), fun F0 σ Q st q => ?_⟩
  have st : Ok K ⟨F0, H, F0⟩ F0 H σ [Vl stock, Vl index, Vl columns, Vl cells] := st
  obtain ⟨h1, h2⟩ := hp
  refine s_retF st ((en_cat (en_cat (en_cut (st.c.v 0 rfl) eo_none (eo_some (st.c.v 1 rfl))).ev (en_one (as_tab (ev_t3 ev_int (st.c.v 2 rfl) (st.c.v 3 rfl)))).ev ?_).ev (en_cut (st.c.v 0 rfl) (eo_some (ev_add (st.c.v 1 rfl) ev_int)) eo_none).ev ?_)).ev ?_ q
  · rw [cut_to h2, List.length_take, List.length_singleton]
    omega
  · rw [cut_to h2, cut_from (by omega), List.length_append, List.length_take, List.length_singleton, List.length_drop]
    omega
  · rw [cut_to h2, cut_from (by omega)]
    rfl
/-! ### sorted_rows -/
abbrev st99 : Stmt := top 99
abbrev N99 : List Str := ["stock", "index", "column", "descending", "code", "columns", "cells"]
theorem sc99 : FnScope N99 ["stock", "index", "column", "descending"] (defScope st99) := ⟨rfl, rfl, rfl, by decide +kernel, rfl, by decide +kernel, by decide +kernel⟩
def p_sorted_rows : (List R.Item) → Int → Int → Int → Prop := fun s _ _ _ => R.stockOk s
set_option maxHeartbeats 4000000 in
theorem ok_sorted_rows (e : Env K mg) : FnAt P w K mg "sorted_rows" 4 ["stock", "index", "column", "descending"] (Sp4 K p_sorted_rows (R.sortedRows)) := by
  refine fn4 (e.defs 88 99 "sorted_rows" rfl) sc99 rfl (fun _ _ _ _ _ _ us hu => match us, hu with | [_, _, _, _], _ => rfl) fun base f stock index column descending hp cdv A outer s H E hr => ⟨_,
    (pss_cons (ps_set (i := 4) sc99.nd rfl (by first | exact .inl rfl | exact .inr rfl) (pe_fn (ok_table_error e) (hr.mono (by decide)) (by rfl) (pa_cons (pv 0) (pa_cons (pv 1) pa_nil)) pass0))
      (pss_cons (ps_if (pt_cmpR op_lt (pv 4) pe_int (nomark _)) (pss_one (ps_ret (pe_tup (pa_cons (pv 4) (pa_cons (pv 0) pa_nil))))) pss_nil)
      (pss_cons (ps_set (i := 5) sc99.nd rfl (by first | exact .inl rfl | exact .inr rfl) (pe_ix (ixt_of (K := K) rfl) (pe_ix (ixl_of (K := K) rfl) (pv 0) (pv 1) (fun _ _ => rfl)) pe_int (fun _ _ => rfl)))
      (pss_cons (ps_if (PW.pt (pw_or (pt_cmpR op_lt (pv 2) pe_int (nomark _)) (pw_or1 (pt_cmpR op_ge (pv 2) (pv 5) (nomark _))))) (pss_one (ps_ret (pe_tup (pa_cons (pe_un un_neg pe_int) (pa_cons (pv 0) pa_nil))))) pss_nil)
      (pss_cons (ps_if (PW.pt (pw_and (pt_cmpR op_ne (pv 3) pe_int (nomark _)) (pw_and1 (pt_cmpR op_ne (pv 3) pe_int (nomark _))))) (pss_one (ps_ret (pe_tup (pa_cons (pe_un un_neg pe_int) (pa_cons (pv 0) pa_nil))))) pss_nil)
      (pss_cons (ps_set (i := 6) sc99.nd rfl (by first | exact .inl rfl | exact .inr rfl) (pe_fn (ok_sorted_cells e) (hr.mono (by decide)) (by rfl) (pa_cons (pv 5) (pa_cons (pe_ix (ixt_of (K := K) rfl) (pe_ix (ixl_of (K := K) rfl) (pv 0) (pv 1) (fun _ _ => rfl)) pe_int (fun _ _ => rfl)) (pa_cons (pv 2) (pa_cons (pv 3) pa_nil)))) pass0))
      (pss_one (ps_ret (pe_tup (pa_cons pe_int (pa_cons (pe_fn (ok_with_table e) (hr.mono (by decide)) (by rfl) (pa_cons (pv 0) (pa_cons (pv 1) (pa_cons (pv 5) (pa_cons (pv 6) pa_nil)))) pass0) pa_nil))))))))))), fun F0 σ Q st q => ?_⟩
  have st : Ok K ⟨F0, H, F0⟩ F0 H σ [Vl stock, Vl index, Vl column, Vl descending, .any, .any, .any] := st
  have hp : R.stockOk stock := hp
  refine q_asg st (st.at (ev_call2 (st.c.v 0 rfl) (st.c.v 1 rfl) ?_)) fun F H σ st => ?_
  · trivial
  have st : Ok K _ F H σ [Vl stock, Vl index, Vl column, Vl descending, Vl (R.tableError stock index), .any, .any] := st
  refine q_if st (et_test (ev_lt (st.h.v 4 rfl) ev_int)) (fun hb F H st => ?_) (fun hb F H st => ?_)
  · exact s_retF st (ev_pair (st.c.v 4 rfl) (st.c.v 0 rfl)) (if_pos (of_decide_eq_true hb)).symm q
  have n1 := of_decide_eq_false hb
  obtain ⟨hm, hk⟩ := R.tableError_ok n1
  have hl := hp.1
  obtain ⟨tok, _⟩ := R.table_of (hp.2 _ (R.itemOf_mem hm)) hk
  obtain ⟨i1, i2⟩ := R.missing_false hm
  refine q_asg st (st.at (ev_tabN ?_ (ev_ix (x := (R.itemOf stock index)) (st.c.v 0 rfl) (st.c.v 1 rfl) ?_) ev_int)) fun F H σ st => ?_
  · exact hk
  · exact atS hm
  have st : Ok K _ F H σ [Vl stock, Vl index, Vl column, Vl descending, Vl (R.tableError stock index), Vl (R.columnsOf (R.itemOf stock index)), .any] := st
  refine q_if st (et_or (et_test (ev_lt (st.h.v 2 rfl) ev_int)) (fun hs => (et_test (ev_ge (st.h.v 2 rfl) (st.h.v 5 rfl))))) (fun hb F H st => ?_) (fun hb F H st => ?_)
  · exact s_retF st (ev_pair (ev_neg ev_int) (st.c.v 0 rfl)) ((if_neg n1).trans (if_pos (by simpa using hb))).symm q
  have n2 : ¬ (column < 0 ∨ R.columnsOf (R.itemOf stock index) ≤ column) := by simpa using hb
  refine q_if st (et_and (et_test (ev_ne (st.h.v 3 rfl) ev_int)) (fun hs => (et_test (ev_ne (st.h.v 3 rfl) ev_int)))) (fun hb F H st => ?_) (fun hb F H st => ?_)
  · exact s_retF st (ev_pair (ev_neg ev_int) (st.c.v 0 rfl)) ((if_neg n1).trans ((if_neg n2).trans (if_pos (by simpa using hb)))).symm q
  have n3 : ¬ (¬ descending = 0 ∧ ¬ descending = 1) := fun ⟨e1, e2⟩ => by
    rw [decide_eq_false e1, decide_eq_false e2] at hb
    cases hb
  refine q_asg st (st.at (ev_call4 (st.c.v 5 rfl) (ev_tabC ?_ (ev_ix (x := (R.itemOf stock index)) (st.c.v 0 rfl) (st.c.v 1 rfl) ?_) ev_int) (st.c.v 2 rfl) (st.c.v 3 rfl) ?_)) fun F H σ st => ?_
  · exact hk
  · exact atS hm
  · exact ⟨tok, by omega, by omega⟩
  have st : Ok K _ F H σ [Vl stock, Vl index, Vl column, Vl descending, Vl (R.tableError stock index), Vl (R.columnsOf (R.itemOf stock index)), Vl (R.sortedCells (R.columnsOf (R.itemOf stock index)) (R.cellsOf (R.itemOf stock index)) column descending)] := st
  refine s_retF st (ev_pair ev_int (ev_call4 (st.c.v 0 rfl) (st.c.v 1 rfl) (st.c.v 5 rfl) (st.c.v 6 rfl) ?_)) ((if_neg n1).trans ((if_neg n2).trans (if_neg n3))).symm q
  exact ⟨by omega, i1⟩
/-! ### selected -/
abbrev st100 : Stmt := top 100
abbrev N100 : List Str := ["stock", "index", "chosen", "code", "columns", "cells", "column"]
theorem sc100 : FnScope N100 ["stock", "index", "chosen"] (defScope st100) := ⟨rfl, rfl, rfl, by decide +kernel, rfl, by decide +kernel, by decide +kernel⟩
def p_selected : (List R.Item) → Int → (List Int) → Prop := fun s _ _ => R.stockOk s
set_option maxHeartbeats 4000000 in
theorem ok_selected (e : Env K mg) : FnAt P w K mg "selected" 3 ["stock", "index", "chosen"] (Sp3 K p_selected (R.selected)) := by
  refine fn3 (e.defs 89 100 "selected" rfl) sc100 rfl (fun _ _ _ _ _ _ us hu => match us, hu with | [_, _, _], _ => rfl) fun base f stock index chosen hp cdv A outer s H E hr => ⟨_,
    (pss_cons (ps_set (i := 3) sc100.nd rfl (by first | exact .inl rfl | exact .inr rfl) (pe_fn (ok_table_error e) (hr.mono (by decide)) (by rfl) (pa_cons (pv 0) (pa_cons (pv 1) pa_nil)) pass0))
      (pss_cons (ps_if (pt_cmpR op_lt (pv 3) pe_int (nomark _)) (pss_one (ps_ret (pe_tup (pa_cons (pv 3) (pa_cons (pv 0) pa_nil))))) pss_nil)
      (pss_cons (ps_if (PW.pt (pw_or (pt_cmpR op_lt (pe_callB (len_of (K := K) rfl) (by rfl) (e.free "len" (by decide)) boot_len (pa_cons (pv 2) pa_nil)) pe_int (nomark _)) (pw_or1 (pt_cmpR op_gt (pe_callB (len_of (K := K) rfl) (by rfl) (e.free "len" (by decide)) boot_len (pa_cons (pv 2) pa_nil)) pe_int (nomark _))))) (pss_one (ps_ret (pe_tup (pa_cons (pe_un un_neg pe_int) (pa_cons (pv 0) pa_nil))))) pss_nil)
      (pss_cons (ps_set (i := 4) sc100.nd rfl (by first | exact .inl rfl | exact .inr rfl) (pe_ix (ixt_of (K := K) rfl) (pe_ix (ixl_of (K := K) rfl) (pv 0) (pv 1) (fun _ _ => rfl)) pe_int (fun _ _ => rfl)))
      (pss_cons (ps_if (pt_val (pe_callB (cr_any rfl) (by rfl) (e.free "any" (by decide)) (by decide +kernel) (pa_cons (pe_lc (own := [("column", 6)]) (g := gName 6) rfl sc100.nd (pi_list (pv 2)) (blkOk_by (own := [("column", 6)]) (N := N100) (sc := defScope st100) (by decide +kernel)) (fun _ _ _ _ _ => (pg_name (i := 6) sc100.nd rfl (by first | exact .inl rfl | exact .inr rfl))) (fun _ _ _ _ _ => pts_nil) (fun _ _ _ _ _ => (pe_or (pe_cmpR op_lt (pv 6) pe_int (nomark _)) (pe_one (pe_cmpR op_ge (pv 6) (pv 4) (nomark _)))))) pa_nil))) (pss_one (ps_ret (pe_tup (pa_cons (pe_un un_neg pe_int) (pa_cons (pv 0) pa_nil))))) pss_nil)
      (pss_cons (ps_set (i := 5) sc100.nd rfl (by first | exact .inl rfl | exact .inr rfl) (pe_fn (ok_chosen_cells e) (hr.mono (by decide)) (by rfl) (pa_cons (pv 4) (pa_cons (pe_ix (ixt_of (K := K) rfl) (pe_ix (ixl_of (K := K) rfl) (pv 0) (pv 1) (fun _ _ => rfl)) pe_int (fun _ _ => rfl)) (pa_cons (pv 2) pa_nil))) pass0))
      (pss_one (ps_ret (pe_tup (pa_cons pe_int (pa_cons (pe_fn (ok_with_table e) (hr.mono (by decide)) (by rfl) (pa_cons (pv 0) (pa_cons (pv 1) (pa_cons (pe_callB (len_of (K := K) rfl) (by rfl) (e.free "len" (by decide)) boot_len (pa_cons (pv 2) pa_nil)) (pa_cons (pv 5) pa_nil)))) pass0) pa_nil))))))))))), fun F0 σ Q st q => ?_⟩
  have st : Ok K ⟨F0, H, F0⟩ F0 H σ [Vl stock, Vl index, Vl chosen, .any, .any, .any, .any] := st
  have hp : R.stockOk stock := hp
  refine q_asg st (st.at (ev_call2 (st.c.v 0 rfl) (st.c.v 1 rfl) ?_)) fun F H σ st => ?_
  · trivial
  have st : Ok K _ F H σ [Vl stock, Vl index, Vl chosen, Vl (R.tableError stock index), .any, .any, .any] := st
  refine q_if st (et_test (ev_lt (st.h.v 3 rfl) ev_int)) (fun hb F H st => ?_) (fun hb F H st => ?_)
  · exact s_retF st (ev_pair (st.c.v 3 rfl) (st.c.v 0 rfl)) (if_pos (of_decide_eq_true hb)).symm q
  have n1 := of_decide_eq_false hb
  obtain ⟨hm, hk⟩ := R.tableError_ok n1
  have hl := hp.1
  obtain ⟨tok, _⟩ := R.table_of (hp.2 _ (R.itemOf_mem hm)) hk
  obtain ⟨i1, i2⟩ := R.missing_false hm
  refine q_if st (et_or (et_test (ev_lt (ev_len (st.h.v 2 rfl)) ev_int)) (fun hs => (et_test (ev_gt (ev_len (st.h.v 2 rfl)) ev_int)))) (fun hb F H st => ?_) (fun hb F H st => ?_)
  · exact s_retF st (ev_pair (ev_neg ev_int) (st.c.v 0 rfl)) ((if_neg n1).trans (if_pos (by
      rcases Bool.or_eq_true_iff.mp hb with h | h
      · exact .inl (of_decide_eq_true h)
      · exact .inr (of_decide_eq_true h)))).symm q
  rw [Bool.or_eq_false_iff] at hb
  have b1 := of_decide_eq_false hb.1
  have b2 := of_decide_eq_false hb.2
  have n2 : ¬ ((chosen.length : Int) < 1 ∨ 8 < (chosen.length : Int)) := by omega
  refine q_asg st (st.at (ev_tabN ?_ (ev_ix (x := (R.itemOf stock index)) (st.c.v 0 rfl) (st.c.v 1 rfl) ?_) ev_int)) fun F H σ st => ?_
  · exact hk
  · exact atS hm
  have st : Ok K _ F H σ [Vl stock, Vl index, Vl chosen, Vl (R.tableError stock index), Vl (R.columnsOf (R.itemOf stock index)), .any, .any] := st
  have ec : (chosen.map fun y => decide (y < 0) || decide (y ≥ R.columnsOf (R.itemOf stock index))).any id = chosen.any (fun c => decide (c < 0) || decide (R.columnsOf (R.itemOf stock index) ≤ c)) := List.any_map
  refine q_if st (et_B (ev_any (en_map st.h (ei_list (st.h.v 2 rfl)) ?_ (fun y F1 σ1 hy c => (ev_or (ev_lt (c.v 6 rfl) ev_int) (fun hs => (ev_ge (c.v 6 rfl) (c.v 4 rfl)))))).ev)) (fun hb F H st => ?_) (fun hb F H st => ?_)
  · omega
  · exact s_retF st (ev_pair (ev_neg ev_int) (st.c.v 0 rfl)) ((if_neg n1).trans ((if_neg n2).trans (if_pos (by rw [← ec]; exact hb)))).symm q
  have n3 : ¬ (chosen.any (fun c => decide (c < 0) || decide (R.columnsOf (R.itemOf stock index) ≤ c)) = true) := by
    rw [← ec]
    intro e
    rw [e] at hb
    cases hb
  refine q_asg st (st.at (ev_call3 (st.c.v 4 rfl) (ev_tabC ?_ (ev_ix (x := (R.itemOf stock index)) (st.c.v 0 rfl) (st.c.v 1 rfl) ?_) ev_int) (st.c.v 2 rfl) ?_)) fun F H σ st => ?_
  · exact hk
  · exact atS hm
  · refine ⟨tok, by omega, fun k hk => ?_⟩
    by_cases h : k < 0 ∨ R.columnsOf (R.itemOf stock index) ≤ k
    · refine absurd (List.any_eq_true.mpr ⟨k, hk, ?_⟩) n3
      rcases h with h | h
      · rw [decide_eq_true h]; rfl
      · rw [decide_eq_true h, Bool.or_true]
    · omega
  have st : Ok K _ F H σ [Vl stock, Vl index, Vl chosen, Vl (R.tableError stock index), Vl (R.columnsOf (R.itemOf stock index)), Vl (R.chosenCells (R.columnsOf (R.itemOf stock index)) (R.cellsOf (R.itemOf stock index)) chosen), .any] := st
  refine s_retF st (ev_pair ev_int (ev_call4 (st.c.v 0 rfl) (st.c.v 1 rfl) (ev_len (st.c.v 2 rfl)) (st.c.v 5 rfl) ?_)) ((if_neg n1).trans ((if_neg n2).trans (if_neg n3))).symm q
  exact ⟨by omega, i1⟩
/-! ### changed -/
abbrev st101 : Stmt := top 101
abbrev N101 : List Str := ["stock", "call", "numbers", "given"]
theorem sc101 : FnScope N101 ["stock", "call", "numbers", "given"] (defScope st101) := ⟨rfl, rfl, rfl, by decide +kernel, rfl, by decide +kernel, by decide +kernel⟩
def p_changed : (List R.Item) → Int → (List Int) → (List Int) → Prop := fun s c n _ => R.stockOk s ∧ 6 ≤ c ∧ c ≤ 9 ∧ R.arity c ≤ n.length
set_option maxHeartbeats 4000000 in
theorem ok_changed (e : Env K mg) : FnAt P w K mg "changed" 5 ["stock", "call", "numbers", "given"] (Sp4 K p_changed (R.changed)) := by
  refine fn4 (e.defs 90 101 "changed" rfl) sc101 rfl (fun _ _ _ _ _ _ us hu => match us, hu with | [_, _, _, _], _ => rfl) fun base f stock call numbers given hp cdv A outer s H E hr => ⟨_,
    (pss_cons (ps_if (pt_cmpR op_eq (pv 1) pe_int (nomark _)) (pss_one (ps_ret (pe_fn (ok_removed e) (hr.mono (by decide)) (by rfl) (pa_cons (pv 0) (pa_cons (pe_ix (ixl_of (K := K) rfl) (pv 2) pe_int (fun _ _ => rfl)) pa_nil)) pass0))) pss_nil)
      (pss_cons (ps_if (pt_cmpR op_eq (pv 1) pe_int (nomark _)) (pss_one (ps_ret (pe_fn (ok_moved e) (hr.mono (by decide)) (by rfl) (pa_cons (pv 0) (pa_cons (pe_ix (ixl_of (K := K) rfl) (pv 2) pe_int (fun _ _ => rfl)) (pa_cons (pe_ix (ixl_of (K := K) rfl) (pv 2) pe_int (fun _ _ => rfl)) pa_nil))) pass0))) pss_nil)
      (pss_cons (ps_if (pt_cmpR op_eq (pv 1) pe_int (nomark _)) (pss_one (ps_ret (pe_fn (ok_sorted_rows e) (hr.mono (by decide)) (by rfl) (pa_cons (pv 0) (pa_cons (pe_ix (ixl_of (K := K) rfl) (pv 2) pe_int (fun _ _ => rfl)) (pa_cons (pe_ix (ixl_of (K := K) rfl) (pv 2) pe_int (fun _ _ => rfl)) (pa_cons (pe_ix (ixl_of (K := K) rfl) (pv 2) pe_int (fun _ _ => rfl)) pa_nil)))) pass0))) pss_nil)
      (pss_one (ps_ret (pe_fn (ok_selected e) (hr.mono (by decide)) (by rfl) (pa_cons (pv 0) (pa_cons (pe_ix (ixl_of (K := K) rfl) (pv 2) pe_int (fun _ _ => rfl)) (pa_cons (pv 3) pa_nil))) pass0)))))), fun F0 σ Q st q => ?_⟩
  have st : Ok K ⟨F0, H, F0⟩ F0 H σ [Vl stock, Vl call, Vl numbers, Vl given] := st
  obtain ⟨h1, h2, h3, h4⟩ := hp
  have hl := h1.1
  refine q_if st (et_test (ev_eq (st.h.v 1 rfl) ev_int)) (fun hb F H st => ?_) (fun hb F H st => ?_)
  · obtain rfl : call = 6 := of_decide_eq_true hb
    have h4 : 1 ≤ numbers.length := h4
    refine s_retF st (ev_call2 (st.c.v 0 rfl) (ev_ix (x := (R.num numbers 0)) (st.c.v 2 rfl) ev_int ?_) ?_) rfl q
    · exact atD (by decide) (by omega)
    · show _ ≤ 1000; omega
  have n1 := of_decide_eq_false hb
  refine q_if st (et_test (ev_eq (st.h.v 1 rfl) ev_int)) (fun hb F H st => ?_) (fun hb F H st => ?_)
  · obtain rfl : call = 7 := of_decide_eq_true hb
    have h4 : 2 ≤ numbers.length := h4
    refine s_retF st (ev_call3 (st.c.v 0 rfl) (ev_ix (x := (R.num numbers 0)) (st.c.v 2 rfl) ev_int ?_) (ev_ix (x := (R.num numbers 1)) (st.c.v 2 rfl) ev_int ?_) ?_) rfl q
    · exact atD (by decide) (by omega)
    · exact atD (by decide) (by omega)
    · show _ ≤ 1000; omega
  have n2 := of_decide_eq_false hb
  refine q_if st (et_test (ev_eq (st.h.v 1 rfl) ev_int)) (fun hb F H st => ?_) (fun hb F H st => ?_)
  · obtain rfl : call = 8 := of_decide_eq_true hb
    have h4 : 3 ≤ numbers.length := h4
    refine s_retF st (ev_call4 (st.c.v 0 rfl) (ev_ix (x := (R.num numbers 0)) (st.c.v 2 rfl) ev_int ?_) (ev_ix (x := (R.num numbers 1)) (st.c.v 2 rfl) ev_int ?_) (ev_ix (x := (R.num numbers 2)) (st.c.v 2 rfl) ev_int ?_) ?_) rfl q
    · exact atD (by decide) (by omega)
    · exact atD (by decide) (by omega)
    · exact atD (by decide) (by omega)
    · exact h1
  have n3 := of_decide_eq_false hb
  obtain rfl : call = 9 := by omega
  have h4 : 1 ≤ numbers.length := h4
  refine s_retF st (ev_call3 (st.c.v 0 rfl) (ev_ix (x := (R.num numbers 0)) (st.c.v 2 rfl) ev_int ?_) (st.c.v 3 rfl) ?_) rfl q
  · exact atD (by decide) (by omega)
  · exact h1
end
end Wk
end
section
set_option Elab.async false
set_option linter.all false
set_option maxRecDepth 100000
set_option maxHeartbeats 4000000
/-! The walk, printed by wip/g/gen.py. -/
namespace Wk
open PySem PySem.Spec PyProof.Rows L2 Ty
open Rep (rep)
section
variable {w : World} {K : Fg} {mg : Str → Option Value}
/-! ### told_lines -/
abbrev st102 : Stmt := top 102
abbrev N102 : List Str := ["stock", "index", "width"]
theorem sc102 : FnScope N102 ["stock", "index", "width"] (defScope st102) := ⟨rfl, rfl, rfl, by decide +kernel, rfl, by decide +kernel, by decide +kernel⟩
def p_told_lines : (List R.Item) → Int → Int → Prop := fun s i w => R.stockOk s ∧ (R.toldLines s i w).length ≤ 16777216
set_option maxHeartbeats 4000000 in
theorem ok_told_lines (e : Env K mg) : FnAt P w K mg "told_lines" 10 ["stock", "index", "width"] (Sp3 K p_told_lines (R.toldLines)) := by
  refine fn3 (e.defs 91 102 "told_lines" rfl) sc102 rfl (fun _ _ _ _ _ _ us hu => match us, hu with | [_, _, _], _ => rfl) fun base f stock index width hp cdv A outer s H E hr => ⟨_,
    (pss_cons (ps_if (pt_val (pe_fn (ok_is_missing e) (hr.mono (by decide)) (by rfl) (pa_cons (pv 0) (pa_cons (pv 1) pa_nil)) pass0)) (pss_one (ps_ret (pe_lst (pa_cons (pe_un un_neg pe_int) pa_nil)))) pss_nil)
      (pss_cons (ps_if (pt_val (pe_fn (ok_is_no_width e) (hr.mono (by decide)) (by rfl) (pa_cons (pv 2) pa_nil) pass0)) (pss_one (ps_ret (pe_lst (pa_cons (pe_un un_neg pe_int) pa_nil)))) pss_nil)
      (pss_one (ps_ret (pe_fn (ok_listed e) (hr.mono (by decide)) (by rfl) (pa_cons (pe_fn (ok_item_lines e) (hr.mono (by decide)) (by rfl) (pa_cons (pe_ix (ixl_of (K := K) rfl) (pv 0) (pv 1) (fun _ _ => rfl)) (pa_cons (pv 2) pa_nil)) pass0) pa_nil) pass0))))), fun F0 σ Q st q => ?_⟩
  have st : Ok K ⟨F0, H, F0⟩ F0 H σ [Vl stock, Vl index, Vl width] := st
  obtain ⟨h1, h2⟩ := hp
  refine q_if st (et_B (ev_call2 (st.h.v 0 rfl) (st.h.v 1 rfl) ?_)) (fun hb F H st => ?_) (fun hb F H st => ?_)
  · trivial
  · exact s_retF st (en_one (ev_neg ev_int)).ev (if_pos hb).symm q
  have hm := hb
  refine q_if st (et_B (ev_call1 (st.h.v 2 rfl) ?_)) (fun hb F H st => ?_) (fun hb F H st => ?_)
  · trivial
  · exact s_retF st (en_one (ev_neg ev_int)).ev ((if_neg (by rw [hm]; decide)).trans (if_pos hb)).symm q
  have er : R.toldLines stock index width = R.listed (R.itemLines (R.itemOf stock index) width) := (if_neg (by rw [hm]; decide)).trans (if_neg (by rw [hb]; decide))
  obtain ⟨w1, w2⟩ := R.width_ok hb
  refine s_retF st (ev_call1 (ev_call2 (ev_ix (x := (R.itemOf stock index)) (st.c.v 0 rfl) (st.c.v 1 rfl) ?_) (st.c.v 2 rfl) ?_) ?_) er.symm q
  · exact atS hm
  · exact ⟨h1.2 _ (R.itemOf_mem hm), w1, by omega⟩
  · rw [er] at h2
    exact h2
/-! ### told_document -/
abbrev st103 : Stmt := top 103
abbrev N103 : List Str := ["stock", "width"]
theorem sc103 : FnScope N103 ["stock", "width"] (defScope st103) := ⟨rfl, rfl, rfl, by decide +kernel, rfl, by decide +kernel, by decide +kernel⟩
def p_told_document : (List R.Item) → Int → Prop := fun s w => R.stockOk s ∧ (R.toldDocument s w).length ≤ 16777216
set_option maxHeartbeats 4000000 in
theorem ok_told_document (e : Env K mg) : FnAt P w K mg "told_document" 11 ["stock", "width"] (Sp2 K p_told_document (R.toldDocument)) := by
  refine fn2 (e.defs 92 103 "told_document" rfl) sc103 rfl (fun _ _ _ _ _ _ us hu => match us, hu with | [_, _], _ => rfl) fun base f stock width hp cdv A outer s H E hr => ⟨_,
    (pss_cons (ps_if (pt_val (pe_fn (ok_is_no_width e) (hr.mono (by decide)) (by rfl) (pa_cons (pv 1) pa_nil) pass0)) (pss_one (ps_ret (pe_lst (pa_cons (pe_un un_neg pe_int) pa_nil)))) pss_nil)
      (pss_one (ps_ret (pe_fn (ok_listed e) (hr.mono (by decide)) (by rfl) (pa_cons (pe_fn (ok_document e) (hr.mono (by decide)) (by rfl) (pa_cons (pv 0) (pa_cons (pv 1) pa_nil)) pass0) pa_nil) pass0)))), fun F0 σ Q st q => ?_⟩
  have st : Ok K ⟨F0, H, F0⟩ F0 H σ [Vl stock, Vl width] := st
  obtain ⟨h1, h2⟩ := hp
  refine q_if st (et_B (ev_call1 (st.h.v 1 rfl) ?_)) (fun hb F H st => ?_) (fun hb F H st => ?_)
  · trivial
  · exact s_retF st (en_one (ev_neg ev_int)).ev (if_pos hb).symm q
  have er : R.toldDocument stock width = R.listed (R.document stock width) := if_neg (by rw [hb]; decide)
  obtain ⟨w1, w2⟩ := R.width_ok hb
  refine s_retF st (ev_call1 (ev_call2 (st.c.v 0 rfl) (st.c.v 1 rfl) ?_) ?_) er.symm q
  · exact ⟨h1, w1, by omega⟩
  · rw [er] at h2
    exact h2
/-! ### told_pages -/
abbrev st104 : Stmt := top 104
abbrev N104 : List Str := ["stock", "width", "height", "sheets", "answer", "sheet"]
theorem sc104 : FnScope N104 ["stock", "width", "height"] (defScope st104) := ⟨rfl, rfl, rfl, by decide +kernel, rfl, by decide +kernel, by decide +kernel⟩
def p_told_pages : (List R.Item) → Int → Int → Prop := fun s w h => R.stockOk s ∧ (R.toldPages s w h).length ≤ 16777216
set_option maxHeartbeats 4000000 in
theorem ok_told_pages (e : Env K mg) : FnAt P w K mg "told_pages" 11 ["stock", "width", "height"] (Sp3 K p_told_pages (R.toldPages)) := by
  refine fn3 (e.defs 93 104 "told_pages" rfl) sc104 rfl (fun _ _ _ _ _ _ us hu => match us, hu with | [_, _, _], _ => rfl) fun base f stock width height hp cdv A outer s H E hr => ⟨_,
    (pss_cons (ps_if (pt_val (pe_fn (ok_is_no_width e) (hr.mono (by decide)) (by rfl) (pa_cons (pv 1) pa_nil) pass0)) (pss_one (ps_ret (pe_lst (pa_cons (pe_un un_neg pe_int) pa_nil)))) pss_nil)
      (pss_cons (ps_if (PW.pt (pw_or (pt_cmpR op_lt (pv 2) pe_int (nomark _)) (pw_or1 (pt_cmpR op_gt (pv 2) pe_int (nomark _))))) (pss_one (ps_ret (pe_lst (pa_cons (pe_un un_neg pe_int) pa_nil)))) pss_nil)
      (pss_cons (ps_set (i := 3) sc104.nd rfl (by first | exact .inl rfl | exact .inr rfl) (pe_fn (ok_pages e) (hr.mono (by decide)) (by rfl) (pa_cons (pv 0) (pa_cons (pv 1) (pa_cons (pv 2) pa_nil))) pass0))
      (pss_cons (ps_set (i := 4) sc104.nd rfl (by first | exact .inl rfl | exact .inr rfl) (pe_lst (pa_cons (pe_callB (len_of (K := K) rfl) (by rfl) (e.free "len" (by decide)) boot_len (pa_cons (pv 3) pa_nil)) pa_nil)))
      (pss_cons (ps_for PassesOwn.never rfl (pi_list (pv 3)) (pg_name (i := 5) sc104.nd rfl (by first | exact .inl rfl | exact .inr rfl)) (pss_one (ps_expr (pe_bm PySem.F.plainAttrs_list PySem.F.slot_list_extend PySem.F.type_list_extend mt_extend (pv 4) (pa_cons (pe_fn (ok_listed e) (hr.mono (by decide)) (by rfl) (pa_cons (pv 5) pa_nil) pass0) pa_nil)))))
      (pss_one (ps_ret (pv 4)))))))), fun F0 σ Q st q => ?_⟩
  have st : Ok K ⟨F0, H, F0⟩ F0 H σ [Vl stock, Vl width, Vl height, .any, .any, .any] := st
  obtain ⟨h1, h2⟩ := hp
  refine q_if st (et_B (ev_call1 (st.h.v 1 rfl) ?_)) (fun hb F H st => ?_) (fun hb F H st => ?_)
  · trivial
  · exact s_retF st (en_one (ev_neg ev_int)).ev (if_pos hb).symm q
  obtain ⟨w1, w2⟩ := R.width_ok hb
  have n1 : ¬ R.isNoWidth width = true := by rw [hb]; decide
  refine q_if st (et_or (et_test (ev_lt (st.h.v 2 rfl) ev_int)) (fun hs => (et_test (ev_gt (st.h.v 2 rfl) ev_int)))) (fun hb F H st => ?_) (fun hb F H st => ?_)
  · exact s_retF st (en_one (ev_neg ev_int)).ev ((if_neg n1).trans (if_pos (by simpa using hb))).symm q
  have n2 : ¬ (height < 5 ∨ 60 < height) := by simpa using hb
  have er : R.toldPages stock width height = ((R.pages stock width height).length : Int) :: (R.pages stock width height).flatMap R.listed := (if_neg n1).trans (if_neg n2)
  refine q_asg st (st.at (ev_call3 (st.c.v 0 rfl) (st.c.v 1 rfl) (st.c.v 2 rfl) ?_)) fun F H σ st => ?_
  · exact ⟨h1, w1, by omega, by omega, by omega⟩
  have st : Ok K _ F H σ [Vl stock, Vl width, Vl height, Vl (R.pages stock width height), .any, .any] := st
  rw [er] at h2
  rw [List.length_cons] at h2
  generalize R.pages stock width height = sheets at st er h2
  refine q_newM st (en_one (ev_len (st.c.v 3 rfl))) fun pl F H σ st => ?_
  refine q_for st (ei_list (st.c.v 3 rfl)) (fun y => g_name) (fun i Γ => ∃ pl s, Γ = [Vl stock, Vl width, Vl height, Vl sheets, Mu pl ((sheets.length : Int) :: (sheets.take i).flatMap R.listed), s]) ⟨pl, _, rfl⟩ ?_ ?_
  · rintro G i sheet F H σ Γ hb ⟨pl, s, rfl⟩ st
    have st : Ok K _ F H σ [Vl stock, Vl width, Vl height, Vl sheets, Mu pl ((sheets.length : Int) :: (sheets.take i).flatMap R.listed), Vl sheet] := st
    have hn := R.flatMap_take_le R.listed sheets (i + 1)
    rw [List.take_add_one, hb, List.flatMap_append, List.length_append] at hn
    have hn : ((sheets.take i).flatMap R.listed).length + (R.listed sheet).length ≤ (sheets.flatMap R.listed).length := by simpa using hn
    refine s_ext st rfl (st.at (ev_call1 (st.c.v 5 rfl) ?_)) ?_ fun F H st => ⟨_, _, st, ?_⟩
    · show _ ≤ 16777216
      omega
    · rw [List.length_cons]
      omega
    · rw [List.take_add_one, hb, List.flatMap_append]
      exact ⟨pl, Vl sheet, by simp⟩
  · rintro F H σ Γ ⟨pl, s, rfl⟩ st
    rw [List.take_length] at st
    obtain ⟨F, st⟩ := st.freeze 4 rfl
    exact s_retF st (st.c.v 4 rfl) er.symm q
/-! ### told_widths -/
abbrev st105 : Stmt := top 105
abbrev N105 : List Str := ["stock", "index", "width", "kind", "columns", "cells", "widths"]
theorem sc105 : FnScope N105 ["stock", "index", "width"] (defScope st105) := ⟨rfl, rfl, rfl, by decide +kernel, rfl, by decide +kernel, by decide +kernel⟩
def p_told_widths : (List R.Item) → Int → Int → Prop := fun s _ _ => R.stockOk s
set_option maxHeartbeats 4000000 in
theorem ok_told_widths (e : Env K mg) : FnAt P w K mg "told_widths" 8 ["stock", "index", "width"] (Sp3 K p_told_widths (R.toldWidths)) := by
  refine fn3 (e.defs 94 105 "told_widths" rfl) sc105 rfl (fun _ _ _ _ _ _ us hu => match us, hu with | [_, _, _], _ => rfl) fun base f stock index width hp cdv A outer s H E hr => ⟨_,
    (pss_cons (ps_if (pt_val (pe_fn (ok_is_missing e) (hr.mono (by decide)) (by rfl) (pa_cons (pv 0) (pa_cons (pv 1) pa_nil)) pass0)) (pss_one (ps_ret (pe_lst (pa_cons (pe_un un_neg pe_int) pa_nil)))) pss_nil)
      (pss_cons (ps_if (pt_val (pe_fn (ok_is_no_width e) (hr.mono (by decide)) (by rfl) (pa_cons (pv 2) pa_nil) pass0)) (pss_one (ps_ret (pe_lst (pa_cons (pe_un un_neg pe_int) pa_nil)))) pss_nil)
      (pss_cons (ps_asg (pe_ix (ixl_of (K := K) rfl) (pv 0) (pv 1) (fun _ _ => rfl)) (pg_tup rfl (pgs_cons (pg_name (i := 3) sc105.nd rfl (by first | exact .inl rfl | exact .inr rfl)) (pgs_cons (pg_name (i := 4) sc105.nd rfl (by first | exact .inl rfl | exact .inr rfl)) (pgs_cons (pg_name (i := 5) sc105.nd rfl (by first | exact .inl rfl | exact .inr rfl)) pgs_nil)))))
      (pss_cons (ps_if (pt_cmpR op_ne (pv 3) pe_int (nomark _)) (pss_one (ps_ret (pe_lst (pa_cons (pe_un un_neg pe_int) pa_nil)))) pss_nil)
      (pss_cons (ps_set (i := 6) sc105.nd rfl (by first | exact .inl rfl | exact .inr rfl) (pe_fn (ok_fitting_widths e) (hr.mono (by decide)) (by rfl) (pa_cons (pv 4) (pa_cons (pv 5) (pa_cons (pv 2) pa_nil))) pass0))
      (pss_one (ps_ret (pe_op op_cat (pe_lst (pa_cons (pe_callB (len_of (K := K) rfl) (by rfl) (e.free "len" (by decide)) boot_len (pa_cons (pv 6) pa_nil)) pa_nil)) (pv 6))))))))), fun F0 σ Q st q => ?_⟩
  have st : Ok K ⟨F0, H, F0⟩ F0 H σ [Vl stock, Vl index, Vl width, .any, .any, .any, .any] := st
  have hp : R.stockOk stock := hp
  refine q_if st (et_B (ev_call2 (st.h.v 0 rfl) (st.h.v 1 rfl) ?_)) (fun hb F H st => ?_) (fun hb F H st => ?_)
  · trivial
  · exact s_retF st (en_one (ev_neg ev_int)).ev (if_pos hb).symm q
  have hm := hb
  refine q_if st (et_B (ev_call1 (st.h.v 2 rfl) ?_)) (fun hb F H st => ?_) (fun hb F H st => ?_)
  · trivial
  · exact s_retF st (en_one (ev_neg ev_int)).ev ((if_neg (by rw [hm]; decide)).trans (if_pos hb)).symm q
  have er : R.toldWidths stock index width = if ¬ R.kind (R.itemOf stock index) = 2 then [-12]
    else ((R.fittingWidths (R.columnsOf (R.itemOf stock index)) (R.cellsOf (R.itemOf stock index)) width).length : Int) :: R.fittingWidths (R.columnsOf (R.itemOf stock index)) (R.cellsOf (R.itemOf stock index)) width := (if_neg (by rw [hm]; decide)).trans (if_neg (by rw [hb]; decide))
  obtain ⟨w1, w2⟩ := R.width_ok hb
  have hio := hp.2 _ (R.itemOf_mem hm)
  have has := atS hm
  cases hit : R.itemOf stock index with
  | head l t =>
    rw [hit] at has hio er
    have z := ev_ix (x := R.Item.head l t) (st.c.v 0 rfl) (st.c.v 1 rfl) has
    refine q_asgG st (st.at (show Ev K σ F _ (R.T3.mk (0 : Int) l t) from z)) g_t3 fun F H σ st => ?_
    have st : Ok K _ F H σ [Vl stock, Vl index, Vl width, Vl (0 : Int), Vl l, Vl t, .any] := st
    refine q_if st (et_test (ev_ne (st.h.v 3 rfl) ev_int)) (fun hb F H st => ?_) (fun hb F H st => absurd hb (by decide))
    exact s_retF st (en_one (ev_neg ev_int)).ev er.symm q
  | para t =>
    rw [hit] at has hio er
    have z := ev_ix (x := R.Item.para t) (st.c.v 0 rfl) (st.c.v 1 rfl) has
    refine q_asgG st (st.at (show Ev K σ F _ (R.T3.mk (1 : Int) (0 : Int) t) from z)) g_t3 fun F H σ st => ?_
    have st : Ok K _ F H σ [Vl stock, Vl index, Vl width, Vl (1 : Int), Vl (0 : Int), Vl t, .any] := st
    refine q_if st (et_test (ev_ne (st.h.v 3 rfl) ev_int)) (fun hb F H st => ?_) (fun hb F H st => absurd hb (by decide))
    exact s_retF st (en_one (ev_neg ev_int)).ev er.symm q
  | tab n cs =>
    rw [hit] at has hio er
    have z := ev_ix (x := R.Item.tab n cs) (st.c.v 0 rfl) (st.c.v 1 rfl) has
    refine q_asgG st (st.at (show Ev K σ F _ (R.T3.mk (2 : Int) n cs) from z)) g_t3 fun F H σ st => ?_
    have st : Ok K _ F H σ [Vl stock, Vl index, Vl width, Vl (2 : Int), Vl n, Vl cs, .any] := st
    refine q_if st (et_test (ev_ne (st.h.v 3 rfl) ev_int)) (fun hb F H st => absurd hb (by decide)) (fun hb F H st => ?_)
    have tok : R.tabOk n cs := hio
    have fok := R.fitting_ok tok w1
    have f8 := fok.1.1
    refine q_asg st (st.at (ev_call3 (st.c.v 4 rfl) (st.c.v 5 rfl) (st.c.v 2 rfl) ?_)) fun F H σ st => ?_
    · exact ⟨tok, w1, by omega⟩
    have st : Ok K _ F H σ [Vl stock, Vl index, Vl width, Vl (2 : Int), Vl n, Vl cs, Vl (R.fittingWidths n cs width)] := st
    refine s_retF st (en_cat (en_one (ev_len (st.c.v 6 rfl))).ev (st.c.v 6 rfl) ?_).ev er.symm q
    rw [List.length_singleton]
    omega
  | plot h co =>
    rw [hit] at has hio er
    have z := ev_ix (x := R.Item.plot h co) (st.c.v 0 rfl) (st.c.v 1 rfl) has
    refine q_asgG st (st.at (show Ev K σ F _ (R.T3.mk (3 : Int) h co) from z)) g_t3 fun F H σ st => ?_
    have st : Ok K _ F H σ [Vl stock, Vl index, Vl width, Vl (3 : Int), Vl h, Vl co, .any] := st
    refine q_if st (et_test (ev_ne (st.h.v 3 rfl) ev_int)) (fun hb F H st => ?_) (fun hb F H st => absurd hb (by decide))
    exact s_retF st (en_one (ev_neg ev_int)).ev er.symm q
  | check p t =>
    rw [hit] at has hio er
    have z := ev_ix (x := R.Item.check p t) (st.c.v 0 rfl) (st.c.v 1 rfl) has
    refine q_asgG st (st.at (show Ev K σ F _ (R.T3.mk (4 : Int) p t) from z)) g_t3 fun F H σ st => ?_
    have st : Ok K _ F H σ [Vl stock, Vl index, Vl width, Vl (4 : Int), Vl p, Vl t, .any] := st
    refine q_if st (et_test (ev_ne (st.h.v 3 rfl) ev_int)) (fun hb F H st => ?_) (fun hb F H st => absurd hb (by decide))
    exact s_retF st (en_one (ev_neg ev_int)).ev er.symm q
  | bars cs =>
    rw [hit] at has hio er
    have z := ev_ix (x := R.Item.bars cs) (st.c.v 0 rfl) (st.c.v 1 rfl) has
    refine q_asgG st (st.at (show Ev K σ F _ (R.T3.mk (5 : Int) (0 : Int) cs) from z)) g_t3 fun F H σ st => ?_
    have st : Ok K _ F H σ [Vl stock, Vl index, Vl width, Vl (5 : Int), Vl (0 : Int), Vl cs, .any] := st
    refine q_if st (et_test (ev_ne (st.h.v 3 rfl) ev_int)) (fun hb F H st => ?_) (fun hb F H st => absurd hb (by decide))
    exact s_retF st (en_one (ev_neg ev_int)).ev er.symm q
/-! ### told_kinds -/
abbrev st106 : Stmt := top 106
abbrev N106 : List Str := ["stock", "item"]
theorem sc106 : FnScope N106 ["stock"] (defScope st106) := ⟨rfl, rfl, rfl, by decide +kernel, rfl, by decide +kernel, by decide +kernel⟩
def p_told_kinds : (List R.Item) → Prop := fun s => s.length ≤ 1000
set_option maxHeartbeats 4000000 in
theorem ok_told_kinds (e : Env K mg) : FnAt P w K mg "told_kinds" 1 ["stock"] (Sp1 K p_told_kinds (R.toldKinds)) := by
  refine fn1 (e.defs 95 106 "told_kinds" rfl) sc106 rfl (fun _ _ _ _ _ _ us hu => match us, hu with | [_], _ => rfl) fun base f stock hp cdv A outer s H E hr => ⟨_,
    (pss_one (ps_ret (pe_op op_cat (pe_lst (pa_cons (pe_callB (len_of (K := K) rfl) (by rfl) (e.free "len" (by decide)) boot_len (pa_cons (pv 0) pa_nil)) pa_nil)) (pe_lc (own := [("item", 1)]) (g := gName 1) rfl sc106.nd (pi_list (pv 0)) (blkOk_by (own := [("item", 1)]) (N := N106) (sc := defScope st106) (by decide +kernel)) (fun _ _ _ _ _ => (pg_name (i := 1) sc106.nd rfl (by first | exact .inl rfl | exact .inr rfl))) (fun _ _ _ _ _ => pts_nil) (fun _ _ _ _ _ => (pe_ix (ixt_of (K := K) rfl) (pv 1) pe_int (fun _ _ => rfl))))))), fun F0 σ Q st q => ?_⟩
  have st : Ok K ⟨F0, H, F0⟩ F0 H σ [Vl stock, .any] := st
  have hp : stock.length ≤ 1000 := hp
  refine s_retF st (en_cat (en_one (ev_len (st.c.v 0 rfl))).ev (en_map st.c (ei_list (st.c.v 0 rfl)) ?_ (fun y F1 σ1 hy c => (ev_kind (c.v 1 rfl) ev_int))).ev ?_).ev rfl q
  · omega
  · rw [List.length_map, List.length_singleton]
    omega
/-! ### told_cells -/
abbrev st107 : Stmt := top 107
abbrev N107 : List Str := ["stock", "index", "code", "kind", "columns", "cells"]
theorem sc107 : FnScope N107 ["stock", "index"] (defScope st107) := ⟨rfl, rfl, rfl, by decide +kernel, rfl, by decide +kernel, by decide +kernel⟩
def p_told_cells : (List R.Item) → Int → Prop := fun s i => R.stockOk s ∧ (R.toldCells s i).length ≤ 16777216
set_option maxHeartbeats 4000000 in
theorem ok_told_cells (e : Env K mg) : FnAt P w K mg "told_cells" 3 ["stock", "index"] (Sp2 K p_told_cells (R.toldCells)) := by
  refine fn2 (e.defs 96 107 "told_cells" rfl) sc107 rfl (fun _ _ _ _ _ _ us hu => match us, hu with | [_, _], _ => rfl) fun base f stock index hp cdv A outer s H E hr => ⟨_,
    (pss_cons (ps_set (i := 2) sc107.nd rfl (by first | exact .inl rfl | exact .inr rfl) (pe_fn (ok_table_error e) (hr.mono (by decide)) (by rfl) (pa_cons (pv 0) (pa_cons (pv 1) pa_nil)) pass0))
      (pss_cons (ps_if (pt_cmpR op_lt (pv 2) pe_int (nomark _)) (pss_one (ps_ret (pe_lst (pa_cons (pv 2) pa_nil)))) pss_nil)
      (pss_cons (ps_asg (pe_ix (ixl_of (K := K) rfl) (pv 0) (pv 1) (fun _ _ => rfl)) (pg_tup rfl (pgs_cons (pg_name (i := 3) sc107.nd rfl (by first | exact .inl rfl | exact .inr rfl)) (pgs_cons (pg_name (i := 4) sc107.nd rfl (by first | exact .inl rfl | exact .inr rfl)) (pgs_cons (pg_name (i := 5) sc107.nd rfl (by first | exact .inl rfl | exact .inr rfl)) pgs_nil)))))
      (pss_one (ps_ret (pe_op op_cat (pe_lst (pa_cons (pv 4) (pa_cons (pe_op op_sub (pe_fn (ok_row_total e) (hr.mono (by decide)) (by rfl) (pa_cons (pv 4) (pa_cons (pv 5) pa_nil)) pass0) pe_int) pa_nil))) (pe_fn (ok_encoded e) (hr.mono (by decide)) (by rfl) (pa_cons (pv 5) pa_nil) pass0))))))), fun F0 σ Q st q => ?_⟩
  have st : Ok K ⟨F0, H, F0⟩ F0 H σ [Vl stock, Vl index, .any, .any, .any, .any] := st
  obtain ⟨hp, h2⟩ := hp
  refine q_asg st (st.at (ev_call2 (st.c.v 0 rfl) (st.c.v 1 rfl) ?_)) fun F H σ st => ?_
  · trivial
  have st : Ok K _ F H σ [Vl stock, Vl index, Vl (R.tableError stock index), .any, .any, .any] := st
  refine q_if st (et_test (ev_lt (st.h.v 2 rfl) ev_int)) (fun hb F H st => ?_) (fun hb F H st => ?_)
  · exact s_retF st (en_one (st.c.v 2 rfl)).ev (if_pos (of_decide_eq_true hb)).symm q
  have n1 := of_decide_eq_false hb
  obtain ⟨hm, hk⟩ := R.tableError_ok n1
  have er : R.toldCells stock index = [R.columnsOf (R.itemOf stock index), R.rowTotal (R.columnsOf (R.itemOf stock index)) (R.cellsOf (R.itemOf stock index)) - 1] ++ R.encoded (R.cellsOf (R.itemOf stock index)) := if_neg n1
  rw [er, List.length_append] at h2
  have hio := hp.2 _ (R.itemOf_mem hm)
  have has := atS hm
  cases hit : R.itemOf stock index with
  | head l t =>
    rw [hit] at has hio er hk h2
    have z := ev_ix (x := R.Item.head l t) (st.c.v 0 rfl) (st.c.v 1 rfl) has
    refine q_asgG st (st.at (show Ev K σ F _ (R.T3.mk (0 : Int) l t) from z)) g_t3 fun F H σ st => ?_
    have st : Ok K _ F H σ [Vl stock, Vl index, Vl (R.tableError stock index), Vl (0 : Int), Vl l, Vl t] := st
    exact absurd (show (0 : Int) = (2 : Int) from hk) (by decide)
  | para t =>
    rw [hit] at has hio er hk h2
    have z := ev_ix (x := R.Item.para t) (st.c.v 0 rfl) (st.c.v 1 rfl) has
    refine q_asgG st (st.at (show Ev K σ F _ (R.T3.mk (1 : Int) (0 : Int) t) from z)) g_t3 fun F H σ st => ?_
    have st : Ok K _ F H σ [Vl stock, Vl index, Vl (R.tableError stock index), Vl (1 : Int), Vl (0 : Int), Vl t] := st
    exact absurd (show (1 : Int) = (2 : Int) from hk) (by decide)
  | tab n cs =>
    rw [hit] at has hio er hk h2
    have z := ev_ix (x := R.Item.tab n cs) (st.c.v 0 rfl) (st.c.v 1 rfl) has
    refine q_asgG st (st.at (show Ev K σ F _ (R.T3.mk (2 : Int) n cs) from z)) g_t3 fun F H σ st => ?_
    have st : Ok K _ F H σ [Vl stock, Vl index, Vl (R.tableError stock index), Vl (2 : Int), Vl n, Vl cs] := st
    have tok : R.tabOk n cs := hio
    have h2 : 2 + (R.encoded cs).length ≤ 16777216 := h2
    refine s_retF st (en_cat (en_two (st.c.v 4 rfl) (ev_sub (ev_call2 (st.c.v 4 rfl) (st.c.v 5 rfl) ?_) ev_int)).ev (ev_call1 (st.c.v 5 rfl) ?_) ?_).ev er.symm q
    · exact ⟨tok.1, by have := tok.2.1; omega⟩
    · show _ ≤ 16777216
      omega
    · show 2 + _ ≤ _
      omega
  | plot h co =>
    rw [hit] at has hio er hk h2
    have z := ev_ix (x := R.Item.plot h co) (st.c.v 0 rfl) (st.c.v 1 rfl) has
    refine q_asgG st (st.at (show Ev K σ F _ (R.T3.mk (3 : Int) h co) from z)) g_t3 fun F H σ st => ?_
    have st : Ok K _ F H σ [Vl stock, Vl index, Vl (R.tableError stock index), Vl (3 : Int), Vl h, Vl co] := st
    exact absurd (show (3 : Int) = (2 : Int) from hk) (by decide)
  | check p t =>
    rw [hit] at has hio er hk h2
    have z := ev_ix (x := R.Item.check p t) (st.c.v 0 rfl) (st.c.v 1 rfl) has
    refine q_asgG st (st.at (show Ev K σ F _ (R.T3.mk (4 : Int) p t) from z)) g_t3 fun F H σ st => ?_
    have st : Ok K _ F H σ [Vl stock, Vl index, Vl (R.tableError stock index), Vl (4 : Int), Vl p, Vl t] := st
    exact absurd (show (4 : Int) = (2 : Int) from hk) (by decide)
  | bars cs =>
    rw [hit] at has hio er hk h2
    have z := ev_ix (x := R.Item.bars cs) (st.c.v 0 rfl) (st.c.v 1 rfl) has
    refine q_asgG st (st.at (show Ev K σ F _ (R.T3.mk (5 : Int) (0 : Int) cs) from z)) g_t3 fun F H σ st => ?_
    have st : Ok K _ F H σ [Vl stock, Vl index, Vl (R.tableError stock index), Vl (5 : Int), Vl (0 : Int), Vl cs] := st
    exact absurd (show (5 : Int) = (2 : Int) from hk) (by decide)
/-! ### asked -/
abbrev st108 : Stmt := top 108
abbrev N108 : List Str := ["stock", "call", "numbers"]
theorem sc108 : FnScope N108 ["stock", "call", "numbers"] (defScope st108) := ⟨rfl, rfl, rfl, by decide +kernel, rfl, by decide +kernel, by decide +kernel⟩
def p_asked : (List R.Item) → Int → (List Int) → Prop := fun s c n => R.stockOk s ∧ 10 ≤ c ∧ (c ≤ 16 ∧ ¬ c = 14) ∧ R.arity c ≤ n.length ∧ (R.asked s c n).length ≤ 16777216
set_option maxHeartbeats 4000000 in
theorem ok_asked (e : Env K mg) : FnAt P w K mg "asked" 12 ["stock", "call", "numbers"] (Sp3 K p_asked (R.asked)) := by
  refine fn3 (e.defs 97 108 "asked" rfl) sc108 rfl (fun _ _ _ _ _ _ us hu => match us, hu with | [_, _, _], _ => rfl) fun base f stock call numbers hp cdv A outer s H E hr => ⟨_,
    (pss_cons (ps_if (pt_cmpR op_eq (pv 1) pe_int (nomark _)) (pss_one (ps_ret (pe_fn (ok_told_lines e) (hr.mono (by decide)) (by rfl) (pa_cons (pv 0) (pa_cons (pe_ix (ixl_of (K := K) rfl) (pv 2) pe_int (fun _ _ => rfl)) (pa_cons (pe_ix (ixl_of (K := K) rfl) (pv 2) pe_int (fun _ _ => rfl)) pa_nil))) pass0))) pss_nil)
      (pss_cons (ps_if (pt_cmpR op_eq (pv 1) pe_int (nomark _)) (pss_one (ps_ret (pe_fn (ok_told_document e) (hr.mono (by decide)) (by rfl) (pa_cons (pv 0) (pa_cons (pe_ix (ixl_of (K := K) rfl) (pv 2) pe_int (fun _ _ => rfl)) pa_nil)) pass0))) pss_nil)
      (pss_cons (ps_if (pt_cmpR op_eq (pv 1) pe_int (nomark _)) (pss_one (ps_ret (pe_fn (ok_told_pages e) (hr.mono (by decide)) (by rfl) (pa_cons (pv 0) (pa_cons (pe_ix (ixl_of (K := K) rfl) (pv 2) pe_int (fun _ _ => rfl)) (pa_cons (pe_ix (ixl_of (K := K) rfl) (pv 2) pe_int (fun _ _ => rfl)) pa_nil))) pass0))) pss_nil)
      (pss_cons (ps_if (pt_cmpR op_eq (pv 1) pe_int (nomark _)) (pss_one (ps_ret (pe_fn (ok_told_widths e) (hr.mono (by decide)) (by rfl) (pa_cons (pv 0) (pa_cons (pe_ix (ixl_of (K := K) rfl) (pv 2) pe_int (fun _ _ => rfl)) (pa_cons (pe_ix (ixl_of (K := K) rfl) (pv 2) pe_int (fun _ _ => rfl)) pa_nil))) pass0))) pss_nil)
      (pss_cons (ps_if (pt_cmpR op_eq (pv 1) pe_int (nomark _)) (pss_one (ps_ret (pe_fn (ok_told_kinds e) (hr.mono (by decide)) (by rfl) (pa_cons (pv 0) pa_nil) pass0))) pss_nil)
      (pss_one (ps_ret (pe_fn (ok_told_cells e) (hr.mono (by decide)) (by rfl) (pa_cons (pv 0) (pa_cons (pe_ix (ixl_of (K := K) rfl) (pv 2) pe_int (fun _ _ => rfl)) pa_nil)) pass0)))))))), fun F0 σ Q st q => ?_⟩
  have st : Ok K ⟨F0, H, F0⟩ F0 H σ [Vl stock, Vl call, Vl numbers] := st
  obtain ⟨h1, h2, h3, h4, h5⟩ := hp
  have hl := h1.1
  refine q_if st (et_test (ev_eq (st.h.v 1 rfl) ev_int)) (fun hb F H st => ?_) (fun hb F H st => ?_)
  · obtain rfl : call = 10 := of_decide_eq_true hb
    have h4 : 2 ≤ numbers.length := h4
    refine s_retF st (ev_call3 (st.c.v 0 rfl) (ev_ix (x := (R.num numbers 0)) (st.c.v 2 rfl) ev_int ?_) (ev_ix (x := (R.num numbers 1)) (st.c.v 2 rfl) ev_int ?_) ?_) rfl q
    · exact atD (by decide) (by omega)
    · exact atD (by decide) (by omega)
    · exact ⟨h1, h5⟩
  have n10 := of_decide_eq_false hb
  refine q_if st (et_test (ev_eq (st.h.v 1 rfl) ev_int)) (fun hb F H st => ?_) (fun hb F H st => ?_)
  · obtain rfl : call = 11 := of_decide_eq_true hb
    have h4 : 1 ≤ numbers.length := h4
    refine s_retF st (ev_call2 (st.c.v 0 rfl) (ev_ix (x := (R.num numbers 0)) (st.c.v 2 rfl) ev_int ?_) ?_) rfl q
    · exact atD (by decide) (by omega)
    · exact ⟨h1, h5⟩
  have n11 := of_decide_eq_false hb
  refine q_if st (et_test (ev_eq (st.h.v 1 rfl) ev_int)) (fun hb F H st => ?_) (fun hb F H st => ?_)
  · obtain rfl : call = 12 := of_decide_eq_true hb
    have h4 : 2 ≤ numbers.length := h4
    refine s_retF st (ev_call3 (st.c.v 0 rfl) (ev_ix (x := (R.num numbers 0)) (st.c.v 2 rfl) ev_int ?_) (ev_ix (x := (R.num numbers 1)) (st.c.v 2 rfl) ev_int ?_) ?_) rfl q
    · exact atD (by decide) (by omega)
    · exact atD (by decide) (by omega)
    · exact ⟨h1, h5⟩
  have n12 := of_decide_eq_false hb
  refine q_if st (et_test (ev_eq (st.h.v 1 rfl) ev_int)) (fun hb F H st => ?_) (fun hb F H st => ?_)
  · obtain rfl : call = 13 := of_decide_eq_true hb
    have h4 : 2 ≤ numbers.length := h4
    refine s_retF st (ev_call3 (st.c.v 0 rfl) (ev_ix (x := (R.num numbers 0)) (st.c.v 2 rfl) ev_int ?_) (ev_ix (x := (R.num numbers 1)) (st.c.v 2 rfl) ev_int ?_) ?_) rfl q
    · exact atD (by decide) (by omega)
    · exact atD (by decide) (by omega)
    · exact h1
  have n13 := of_decide_eq_false hb
  refine q_if st (et_test (ev_eq (st.h.v 1 rfl) ev_int)) (fun hb F H st => ?_) (fun hb F H st => ?_)
  · obtain rfl : call = 15 := of_decide_eq_true hb
    refine s_retF st (ev_call1 (st.c.v 0 rfl) ?_) rfl q
    · show _ ≤ 1000; omega
  have n15 := of_decide_eq_false hb
  obtain rfl : call = 16 := by omega
  have h4 : 1 ≤ numbers.length := h4
  refine s_retF st (ev_call2 (st.c.v 0 rfl) (ev_ix (x := (R.num numbers 0)) (st.c.v 2 rfl) ev_int ?_) ?_) rfl q
  · exact atD (by decide) (by omega)
  · exact ⟨h1, h5⟩
/-! ### performed -/
abbrev st109 : Stmt := top 109
abbrev N109 : List Str := ["stock", "call", "numbers", "given", "code", "after"]
theorem sc109 : FnScope N109 ["stock", "call", "numbers", "given"] (defScope st109) := ⟨rfl, rfl, rfl, by decide +kernel, rfl, by decide +kernel, by decide +kernel⟩
def p_performed : (List R.Item) → Int → (List Int) → (List Int) → Prop := R.perfOk
set_option maxHeartbeats 4000000 in
theorem ok_performed (e : Env K mg) : FnAt P w K mg "performed" 13 ["stock", "call", "numbers", "given"] (Sp4 K p_performed (R.performed)) := by
  refine fn4 (e.defs 98 109 "performed" rfl) sc109 rfl (fun _ _ _ _ _ _ us hu => match us, hu with | [_, _, _, _], _ => rfl) fun base f stock call numbers given hp cdv A outer s H E hr => ⟨_,
    (pss_cons (ps_if (PW.pt (pw_or (pt_cmpR op_le (pv 1) pe_int (nomark _)) (pw_or1 (pt_cmpR op_eq (pv 1) pe_int (nomark _))))) (pss_one (ps_ret (pe_fn (ok_added e) (hr.mono (by decide)) (by rfl) (pa_cons (pv 0) (pa_cons (pv 1) (pa_cons (pv 2) (pa_cons (pv 3) pa_nil)))) pass0))) pss_nil)
      (pss_cons (ps_if (pt_cmpR op_le (pv 1) pe_int (nomark _)) (pss_cons (ps_asg (pe_fn (ok_changed e) (hr.mono (by decide)) (by rfl) (pa_cons (pv 0) (pa_cons (pv 1) (pa_cons (pv 2) (pa_cons (pv 3) pa_nil)))) pass0) (pg_tup rfl (pgs_cons (pg_name (i := 4) sc109.nd rfl (by first | exact .inl rfl | exact .inr rfl)) (pgs_cons (pg_name (i := 5) sc109.nd rfl (by first | exact .inl rfl | exact .inr rfl)) pgs_nil))))
      (pss_one (ps_ret (pe_tup (pa_cons (pv 5) (pa_cons (pe_lst (pa_cons (pv 4) pa_nil)) pa_nil)))))) pss_nil)
      (pss_one (ps_ret (pe_tup (pa_cons (pv 0) (pa_cons (pe_fn (ok_asked e) (hr.mono (by decide)) (by rfl) (pa_cons (pv 0) (pa_cons (pv 1) (pa_cons (pv 2) pa_nil))) pass0) pa_nil))))))), fun F0 σ Q st q => ?_⟩
  have st : Ok K ⟨F0, H, F0⟩ F0 H σ [Vl stock, Vl call, Vl numbers, Vl given, .any, .any] := st
  obtain ⟨h1, h2, h3, h4, h5, h6⟩ := (show R.perfOk stock call numbers given from hp)
  have hl := h1.1
  refine q_if st (et_or (et_test (ev_le (st.h.v 1 rfl) ev_int)) (fun hs => (et_test (ev_eq (st.h.v 1 rfl) ev_int)))) (fun hb F H st => ?_) (fun hb F H st => ?_)
  · refine s_retF st (ev_call4 (st.c.v 0 rfl) (st.c.v 1 rfl) (st.c.v 2 rfl) (st.c.v 3 rfl) ?_) ?_ q
    · exact ⟨by omega, h4, h5⟩
    · exact (if_pos (by simpa using hb)).symm
  have n1 : ¬ (call ≤ 5 ∨ call = 14) := by simpa using hb
  refine q_if st (et_test (ev_le (st.h.v 1 rfl) ev_int)) (fun hb F H st => ?_) (fun hb F H st => ?_)
  · have b := of_decide_eq_true hb
    refine q_asgG st (st.at (ev_call4 (st.c.v 0 rfl) (st.c.v 1 rfl) (st.c.v 2 rfl) (st.c.v 3 rfl) ?_)) g_pair fun F H σ st => ?_
    · exact ⟨h1, by omega, b, h4⟩
    have st : Ok K _ F H σ [Vl stock, Vl call, Vl numbers, Vl given, Vl (R.changed stock call numbers given).1, Vl (R.changed stock call numbers given).2] := st
    exact s_retF st (ev_pair (st.c.v 5 rfl) (en_one (st.c.v 4 rfl)).ev) ((if_neg n1).trans (if_pos b)).symm q
  have n2 := of_decide_eq_false hb
  have er : R.performed stock call numbers given = (stock, R.asked stock call numbers) := (if_neg n1).trans (if_neg n2)
  rw [er] at h6
  refine s_retF st (ev_pair (st.c.v 0 rfl) (ev_call3 (st.c.v 0 rfl) (st.c.v 1 rfl) (st.c.v 2 rfl) ?_)) er.symm q
  exact ⟨h1, by omega, ⟨h3, fun e => n1 (.inr e)⟩, h4, h6⟩
/-! ### call_at -/
abbrev st113 : Stmt := top 113
abbrev N113 : List Str := ["calls", "at", "call", "end", "numbers", "behind"]
theorem sc113 : FnScope N113 ["calls", "at"] (defScope st113) := ⟨rfl, rfl, rfl, by decide +kernel, rfl, by decide +kernel, by decide +kernel⟩
def p_call_at : Frz → Int → Prop := fun l a => 0 ≤ a ∧ R.callOk (l.l.drop a.toNat)
set_option maxHeartbeats 4000000 in
theorem ok_call_at (e : Env K mg) : FnAt P w K mg "call_at" 1 ["calls", "at"] (Sp2 K p_call_at (callG)) := by
  obtain ⟨hWa, hWg, hWt⟩ := e.wl
  obtain ⟨hAa, hAg, hAt⟩ := e.arg
  refine fn2 (e.defs 99 113 "call_at" rfl) sc113 rfl (fun _ _ _ _ _ _ us hu => match us, hu with | [_, _], _ => rfl) fun base f calls at' hp cdv A outer s H E hr => ⟨_,
    (pss_cons (ps_set (i := 2) sc113.nd rfl (by first | exact .inl rfl | exact .inr rfl) (pe_ix (ixl_of (K := K) rfl) (pv 0) (pv 1) (fun _ _ => rfl)))
      (pss_cons (ps_set (i := 3) sc113.nd rfl (by first | exact .inl rfl | exact .inr rfl) (pe_op op_add (pe_op op_add (pv 1) pe_int) (pe_ix (ixt_of (K := K) rfl) (pe_glob (v := .ref hAa) (by rfl) hAg rfl) (pv 2) (fun _ _ => rfl))))
      (pss_cons (ps_set (i := 4) sc113.nd rfl (by first | exact .inl rfl | exact .inr rfl) (pe_slice (sll_of (K := K) rfl) (pv 0) (po_some (pe_op op_add (pv 1) pe_int)) (po_some (pv 3))))
      (pss_cons (ps_if (pt_cmpR op_notIn_seq (pv 2) (pe_glob (v := .ref hWa) (by rfl) hWg rfl) rfl) (pss_one (ps_ret (pe_tup (pa_cons (pv 2) (pa_cons (pv 4) (pa_cons (pe_lst pa_nil) (pa_cons (pv 3) pa_nil))))))) pss_nil)
      (pss_cons (ps_set (i := 5) sc113.nd rfl (by first | exact .inl rfl | exact .inr rfl) (pe_op op_add (pe_op op_add (pv 3) pe_int) (pe_ix (ixl_of (K := K) rfl) (pv 0) (pv 3) (fun _ _ => rfl))))
      (pss_one (ps_ret (pe_tup (pa_cons (pv 2) (pa_cons (pv 4) (pa_cons (pe_slice (sll_of (K := K) rfl) (pv 0) (po_some (pe_op op_add (pv 3) pe_int)) (po_some (pv 5))) (pa_cons (pv 5) pa_nil)))))))))))), fun F0 σ Q st q => ?_⟩
  have st : Ok K ⟨F0, H, F0⟩ F0 H σ [Vl calls, Vl at', .any, .any, .any, .any] := st
  obtain ⟨h1, h2⟩ := hp
  obtain ⟨a, rfl⟩ : ∃ a : Nat, at' = (a : Int) := ⟨at'.toNat, by omega⟩
  obtain ⟨l⟩ := calls
  have h2 : R.callOk (l.drop a) := h2
  have eg : callG ⟨l⟩ (a : Int) = R.T4.mk (R.call1 (l.drop a)).a (R.call1 (l.drop a)).b (R.call1 (l.drop a)).c ((a : Int) + ((R.call1 (l.drop a)).d : Int)) := rfl
  obtain ⟨call, r, hd⟩ : ∃ c r, l.drop a = c :: r := by
    cases e : l.drop a with
    | nil => rw [e] at h2; exact h2.elim
    | cons c r => exact ⟨c, r, rfl⟩
  rw [hd] at h2 eg
  obtain ⟨c0, c16, ha, hw⟩ := h2
  have hlen : l.length = a + 1 + r.length := by
    have := congrArg List.length hd
    rw [List.length_drop, List.length_cons] at this
    omega
  have hr : l.drop (a + 1) = r := by
    rw [← List.drop_drop, hd]
    rfl
  have i0 : atI l (a : Int) = some call := atI_nat (by
    have := congrArg (fun z => z[0]?) hd
    simpa using this)
  have iar : atI arities call = some (R.arity call : Int) := arity_of c0 c16
  refine q_asg st (st.at (ev_ixF (n := (call)) (st.c.v 0 rfl) (st.c.v 1 rfl) ?_)) fun F H σ st => ?_
  · exact i0
  refine q_asg st (st.at (ev_add (ev_add (st.c.v 1 rfl) ev_int) (ev_ixK (n := ((R.arity call : Int))) hAt (st.c.v 2 rfl) ?_))) fun F H σ st => ?_
  · exact iar
  have e1 : cut l (some ((a : Int) + 1)) (some ((a : Int) + 1 + (R.arity call : Int))) = r.take (R.arity call) := by
    rw [cut_mid (by omega) (by omega), show ((a : Int) + 1).toNat = a + 1 by omega, hr, show ((a : Int) + 1 + (R.arity call : Int)).toNat - (a + 1) = R.arity call by omega]
  refine q_asg st (st.at (((en_cutF (st.c.v 0 rfl) (eo_some (ev_add (st.c.v 1 rfl) ev_int)) (eo_some (st.c.v 3 rfl)))).cast e1).ev) fun F H σ st => ?_
  have st : Ok K _ F H σ [Vl (Frz.mk l), Vl (a : Int), Vl call, Vl ((a : Int) + 1 + (R.arity call : Int)), Vl (r.take (R.arity call)), .any] := st
  have ew := withList_of c0 c16
  refine q_if st (et_test (ev_notInK hWt (st.h.v 2 rfl))) (fun hb F H st => ?_) (fun hb F H st => ?_)
  · have hn : ¬ R.withList call = true := by
      rw [← ew]
      intro e
      rw [e] at hb
      cases hb
    refine s_retF st (ev_t4 (st.c.v 2 rfl) (st.c.v 4 rfl) en_nil.ev (st.c.v 3 rfl)) ?_ q
    rw [eg, show R.call1 (call :: r) = ⟨call, r.take (R.arity call), [], R.arity call + 1⟩ from if_neg hn]
    have e9 : (a : Int) + 1 + (R.arity call : Int) = (a : Int) + ((R.arity call + 1 : Nat) : Int) := by omega
    exact congrArg (R.T4.mk call (r.take (R.arity call)) ([] : R.B)) e9
  have hy : R.withList call = true := by
    rw [← ew]
    cases e : withLists.contains call with
    | true => rfl
    | false => rw [e] at hb; cases hb
  obtain ⟨w1, w2, w3⟩ := hw hy
  have i2 : atI l ((a : Int) + 1 + (R.arity call : Int)) = some (r.getD (R.arity call) 0) := by
    have : (a : Int) + 1 + (R.arity call : Int) = ((a + 1 + R.arity call : Nat) : Int) := by omega
    rw [this]
    refine atI_nat ?_
    have := R.getD_some w1
    rw [← hr, List.getElem?_drop] at this
    rw [← hr]
    exact this
  generalize hz : r.getD (R.arity call) 0 = n at w2 w3 i2
  refine q_asg st (st.at (ev_add (ev_add (st.c.v 3 rfl) ev_int) (ev_ixF (n := (n)) (st.c.v 0 rfl) (st.c.v 3 rfl) ?_))) fun F H σ st => ?_
  · exact i2
  have st : Ok K _ F H σ [Vl (Frz.mk l), Vl (a : Int), Vl call, Vl ((a : Int) + 1 + (R.arity call : Int)), Vl (r.take (R.arity call)), Vl ((a : Int) + 1 + (R.arity call : Int) + 1 + n)] := st
  refine s_retF st (ev_t4 (st.c.v 2 rfl) (st.c.v 4 rfl) (en_cutF (st.c.v 0 rfl) (eo_some (ev_add (st.c.v 3 rfl) ev_int)) (eo_some (st.c.v 5 rfl))).ev (st.c.v 5 rfl)) ?_ q
  rw [eg, show R.call1 (call :: r) = ⟨call, r.take (R.arity call), (r.drop (R.arity call + 1)).take (r.getD (R.arity call) 0).toNat, R.arity call + 2 + (r.getD (R.arity call) 0).toNat⟩ from if_pos hy, hz]
  have e2 : cut l (some ((a : Int) + 1 + (R.arity call : Int) + 1)) (some ((a : Int) + 1 + (R.arity call : Int) + 1 + n)) = (r.drop (R.arity call + 1)).take n.toNat := by
    rw [cut_mid (by omega) (by omega), show ((a : Int) + 1 + (R.arity call : Int) + 1).toNat = a + 1 + (R.arity call + 1) by omega, ← hr, List.drop_drop, show ((a : Int) + 1 + (R.arity call : Int) + 1 + n).toNat - (a + 1 + (R.arity call + 1)) = n.toNat by omega]
  have e9 : (a : Int) + 1 + (R.arity call : Int) + 1 + n = (a : Int) + ((R.arity call + 2 + n.toNat : Nat) : Int) := by omega
  rw [show cut (Frz.mk l).l (some ((a : Int) + 1 + (R.arity call : Int) + 1)) (some ((a : Int) + 1 + (R.arity call : Int) + 1 + n)) = (r.drop (R.arity call + 1)).take n.toNat from e2]
  exact congrArg (R.T4.mk call (r.take (R.arity call)) ((r.drop (R.arity call + 1)).take n.toNat)) e9
/-! ### answers -/
abbrev st114 : Stmt := top 114
abbrev N114 : List Str := ["calls", "told", "stock", "at", "call", "numbers", "given", "answer"]
theorem sc114 : FnScope N114 ["calls"] (defScope st114) := ⟨rfl, rfl, rfl, by decide +kernel, rfl, by decide +kernel, by decide +kernel⟩
def p_answers : Frz → Prop := fun l => l.l.length ≤ 1000000000 ∧ R.runOk l.l.length [] l.l ∧ (R.answers l.l).length ≤ 16777216
set_option maxHeartbeats 4000000 in
theorem ok_answers (e : Env K mg) : FnAt P w K mg "answers" 14 ["calls"] (Sp1 K p_answers (fun l => R.answers l.l)) := by
  refine fn1 (e.defs 100 114 "answers" rfl) sc114 rfl (fun _ _ _ _ _ _ us hu => match us, hu with | [_], _ => rfl) fun base f calls hp cdv A outer s H E hr => ⟨_,
    (pss_cons (ps_set (i := 1) sc114.nd rfl (by first | exact .inl rfl | exact .inr rfl) (pe_lst pa_nil))
      (pss_cons (ps_set (i := 2) sc114.nd rfl (by first | exact .inl rfl | exact .inr rfl) (pe_lst pa_nil))
      (pss_cons (ps_set (i := 3) sc114.nd rfl (by first | exact .inl rfl | exact .inr rfl) pe_int)
      (pss_cons (ps_while PassesOwn.never (pt_cmpR op_lt (pv 3) (pe_callB (len_of (K := K) rfl) (by rfl) (e.free "len" (by decide)) boot_len (pa_cons (pv 0) pa_nil)) (nomark _)) (pss_cons (ps_asg (pe_fn (ok_call_at e) (hr.mono (by decide)) (by rfl) (pa_cons (pv 0) (pa_cons (pv 3) pa_nil)) pass0) (pg_tup rfl (pgs_cons (pg_name (i := 4) sc114.nd rfl (by first | exact .inl rfl | exact .inr rfl)) (pgs_cons (pg_name (i := 5) sc114.nd rfl (by first | exact .inl rfl | exact .inr rfl)) (pgs_cons (pg_name (i := 6) sc114.nd rfl (by first | exact .inl rfl | exact .inr rfl)) (pgs_cons (pg_name (i := 3) sc114.nd rfl (by first | exact .inl rfl | exact .inr rfl)) pgs_nil))))))
      (pss_cons (ps_asg (pe_fn (ok_performed e) (hr.mono (by decide)) (by rfl) (pa_cons (pv 2) (pa_cons (pv 4) (pa_cons (pv 5) (pa_cons (pv 6) pa_nil)))) pass0) (pg_tup rfl (pgs_cons (pg_name (i := 2) sc114.nd rfl (by first | exact .inl rfl | exact .inr rfl)) (pgs_cons (pg_name (i := 7) sc114.nd rfl (by first | exact .inl rfl | exact .inr rfl)) pgs_nil))))
      (pss_cons (ps_expr (pe_bm PySem.F.plainAttrs_list PySem.F.slot_list_append PySem.F.type_list_append mt_append (pv 1) (pa_cons (pe_callB (len_of (K := K) rfl) (by rfl) (e.free "len" (by decide)) boot_len (pa_cons (pv 7) pa_nil)) pa_nil)))
      (pss_one (ps_expr (pe_bm PySem.F.plainAttrs_list PySem.F.slot_list_extend PySem.F.type_list_extend mt_extend (pv 1) (pa_cons (pv 7) pa_nil))))))))
      (pss_one (ps_ret (pv 1))))))), fun F0 σ Q st q => ?_⟩
  have st : Ok K ⟨F0, H, F0⟩ F0 H σ [Vl calls, .any, .any, .any, .any, .any, .any, .any] := st
  obtain ⟨h1, h2, h3⟩ := hp
  refine q_newM st (en_nil (α := Int)) fun pl F H σ st => ?_
  refine q_asg st (st.at (en_nil (α := R.Item)).ev) fun F H σ st => ?_
  refine q_asg st (st.at ev_int) fun F H σ st => ?_
  refine q_while st (fun m Γ => ∃ (pl : Addr) (told : List Int) (stock : R.Stock) (a f : Nat) (s t u v : Ty.Slot), Γ = [Vl calls, Mu pl told, Vl stock, Vl (a : Int), s, t, u, v] ∧ a ≤ calls.l.length ∧ m = calls.l.length - a ∧ R.runOk f stock (calls.l.drop a) ∧ told ++ R.answersGo f stock (calls.l.drop a) = R.answers calls.l) calls.l.length ⟨pl, [], [], 0, calls.l.length, _, _, _, _, rfl, Nat.zero_le _, rfl, h2, rfl⟩ ?_
  rintro m F H σ Γ ⟨pl, told, stock, a, f, s, t, u, v, rfl, ha, rfl, hr, heq⟩ st
  refine ⟨_, (et_test (ev_lt (st.h.v 3 rfl) (ev_lenF (st.h.v 0 rfl)))), fun hb F H st => ?_, fun hb F H st => ?_⟩
  · have hlt : a < calls.l.length := by have := of_decide_eq_true hb; omega
    obtain ⟨x, r, hd⟩ : ∃ c r, calls.l.drop a = c :: r := by
      cases e : calls.l.drop a with
      | nil =>
        have := congrArg List.length e
        rw [List.length_drop, List.length_nil] at this
        omega
      | cons c r => exact ⟨c, r, rfl⟩
    have eg : callG calls (a : Int) = R.T4.mk (R.call1 (calls.l.drop a)).a (R.call1 (calls.l.drop a)).b (R.call1 (calls.l.drop a)).c ((a : Int) + ((R.call1 (calls.l.drop a)).d : Int)) := rfl
    have hrl : (calls.l.drop a).length = calls.l.length - a := List.length_drop
    cases f with
    | zero => rw [hd] at hr; exact hr.elim
    | succ f =>
      have hco : R.callOk (calls.l.drop a) := by rw [hd] at hr ⊢; exact hr.1
      refine q_asgG st (st.at (ev_call2 (st.c.v 0 rfl) (st.c.v 3 rfl) ?_)) g_t4 fun F H σ st => ?_
      · exact ⟨Int.natCast_nonneg _, hco⟩
      rw [eg] at st
      rw [hd] at hr heq st hco hrl
      obtain ⟨_, hp, hn⟩ := hr
      have hk := R.call1_le hco
      have heq : told ++ (((R.performed stock (R.call1 (x :: r)).a (R.call1 (x :: r)).b (R.call1 (x :: r)).c).2.length : Int) :: (R.performed stock (R.call1 (x :: r)).a (R.call1 (x :: r)).b (R.call1 (x :: r)).c).2 ++ R.answersGo f (R.performed stock (R.call1 (x :: r)).a (R.call1 (x :: r)).b (R.call1 (x :: r)).c).1 ((x :: r).drop (R.call1 (x :: r)).d)) = R.answers calls.l := heq
      have hdd : (x :: r).drop (R.call1 (x :: r)).d = calls.l.drop (a + (R.call1 (x :: r)).d) := by
        rw [← hd, List.drop_drop]
      rw [hdd] at hn heq
      generalize R.call1 (x :: r) = k at st hp hn hk heq
      have hlen := congrArg List.length heq
      rw [List.length_append, List.length_append, List.length_cons] at hlen
      have st : Ok K _ F H σ [Vl calls, Mu pl told, Vl stock, Vl ((a : Int) + (k.d : Int)), Vl k.a, Vl k.b, Vl k.c, v] := st
      refine q_asgG st (st.at (ev_call4 (st.c.v 2 rfl) (st.c.v 4 rfl) (st.c.v 5 rfl) (st.c.v 6 rfl) ?_)) g_pair fun F H σ st => ?_
      · exact hp
      generalize R.performed stock k.a k.b k.c = p at st hn heq hlen
      have st : Ok K _ F H σ [Vl calls, Mu pl told, Vl p.1, Vl ((a : Int) + (k.d : Int)), Vl k.a, Vl k.b, Vl k.c, Vl p.2] := st
      refine q_app st rfl (st.at (ev_len (st.c.v 7 rfl))) ?_ fun F H st => ?_
      · omega
      refine s_ext st rfl (st.at (st.c.v 7 rfl)) ?_ fun F H st => ⟨_, _, st, calls.l.length - (a + k.d), ?_, pl, told ++ [(p.2.length : Int)] ++ p.2, p.1, a + k.d, f, _, _, _, _, rfl, ?_, rfl, hn, ?_⟩
      · rw [List.length_append, List.length_singleton]
        omega
      · omega
      · omega
      · rw [← heq]
        simp
  · have hge : calls.l.length ≤ a := by have := of_decide_eq_false hb; omega
    have hnil : calls.l.drop a = [] := List.drop_eq_nil_of_le hge
    rw [hnil] at heq
    have e : told = R.answers calls.l := by
      rw [← heq]
      cases f <;> exact (List.append_nil told).symm
    obtain ⟨F, st⟩ := st.freeze 1 rfl
    exact s_retF st (st.c.v 1 rfl) e q
end
end Wk
end
section
set_option Elab.async false
set_option linter.all false
set_option maxRecDepth 100000
set_option maxHeartbeats 4000000
/-! The end: what the head hands over, the law from the plain statement. -/
namespace Hd
open PySem PySem.Spec PySem.W PySem.Calls PyProof.Rows HandSHeadRun L2 Ty
theorem fact_mem {K : PySem.W.Frag} (c : He.SaysD fa fn K) {f : He.Fa} (h : f ∈ fa) : f.ok K = true := by
  obtain ⟨i, hi, e⟩ := List.mem_iff_getElem.mp h
  exact c.fact i (f := f) (by rw [List.getElem?_eq_getElem hi, e])
theorem def_mem {K : PySem.W.Frag} (c : He.SaysD fa fn K) {d : He.DefD} (h : d ∈ fn) : ∃ fd, FunD K d.name d.qual d.params d.body d.scope (d.dvs K) (d.kws K) (He.fAd K d.at_) fd := by
  obtain ⟨i, hi, e⟩ := List.mem_iff_getElem.mp h
  exact c.def_ i (d := d) (by rw [List.getElem?_eq_getElem hi, e])
theorem env_of {K : PySem.W.Frag} {h : Heap} {mg : Str → Option Value} (X : K.In h) (G : h.Ns mainGlobals mg) (c : He.SaysD fa fn K) (e : ex K = true) : Wk.Env K mg := by
  obtain ⟨e1, e2⟩ := He.ba e
  obtain ⟨e3, e4⟩ := He.ba e2
  obtain ⟨e5, e6⟩ := He.ba e4
  have gl : ∀ x : Str, He.Fa.glo x ∈ fa → mg x = some (.ref (He.ga K x)) := fun x hx => He.glo_ok X G (fact_mem c hx)
  have tl : ∀ f, f ∈ ([.free "all", .free "any", .free "enumerate", .free "len", .free "list", .free "max", .free "min", .free "ord", .free "range", .free "str", .free "sum", .free "zip", .int "BIG" 1000000000000000000, .glo "ESCAPES", .glo "MEANINGS", .glo "WITH_LIST", .glo "ARGUMENTS"] : List He.Fa) → f ∈ fa := fun f hf => List.mem_append_right _ hf
  refine ⟨fun k i x hk => ?_, fun x hx => ?_, ?_, ?_, ?_, ?_, ?_⟩
  · have hm := List.mem_of_getElem? hk
    obtain ⟨fd, F⟩ := def_mem c (d := dd i x) (List.mem_map_of_mem (f := fun p : Nat × Str => dd p.1 p.2) hm)
    exact ⟨_, fd, gl x (List.mem_append_left _ (List.mem_map_of_mem (f := fun p : Nat × Str => He.Fa.glo p.2) hm)), F⟩
  · refine He.free_ok X G (fact_mem c (tl _ ?_))
    simp only [List.mem_cons, List.not_mem_nil, or_false] at hx
    rcases hx with rfl | rfl | rfl | rfl | rfl | rfl | rfl | rfl | rfl | rfl | rfl | rfl <;> simp
  · exact He.int_ok X G (fact_mem c (tl _ (List.mem_of_getElem? (i := 12) rfl)))
  · refine ⟨_, gl _ (tl _ (List.mem_of_getElem? (i := 13) rfl)), Hx.dicB_ok e5 fun k => ?_⟩
    unfold R.escapes escL
    simp only [List.lookup_cons, List.lookup_nil]
    repeat' split
    all_goals simp_all
  · refine ⟨_, gl _ (tl _ (List.mem_of_getElem? (i := 14) rfl)), Hx.dicB_ok e6 fun k => ?_⟩
    unfold Wk.meanings meaL
    simp only [List.lookup_cons, List.lookup_nil]
    repeat' split
    all_goals simp_all
  · exact ⟨_, gl _ (tl _ (List.mem_of_getElem? (i := 15) rfl)), fun H => by
      have z := He.tupB_ok e3 H
      rw [List.map_map] at z
      exact z⟩
  · exact ⟨_, gl _ (tl _ (List.mem_of_getElem? (i := 16) rfl)), fun H => by
      have z := He.tupB_ok e1 H
      rw [List.map_map] at z
      exact z⟩
/-- the plain law: within what is asked, the program's mirror runs within its bounds and answers as the document says -/
def Plain : Prop := ∀ l : List Int, l.length ≤ 17000 → (∀ x ∈ l, -1000000000000000000 ≤ x ∧ x ≤ 1000000000000000000) → PyVanbkh.answers_asked l = true → R.runOk l.length [] l ∧ (R.answers l).length ≤ 16777216 ∧ PyVanbkh.answers l = R.answers l
theorem left : LeftO P qv loose (fun s => xlAt qv [] s && recOk [] s) hk.obs hk.val (3600 + 600) true :=
  left_one (M := 3600) (by kernel_rfl) (Nat.ble_eq_true_of_le (by omega)) (fun s => by kernel_rfl) (Nat.ble_eq_true_of_le (by omega)) fun w os => by
    have z := run w os
    have eo : ob = fun s => hk.obs s.abs := funext ob_eq
    rw [eo] at z
    simp only [endQ_eq, seenQ_eq]
    exact z
theorem dw_arg {K : Fg} {H : Hp} {xs : List V} {l : List Int} (h : DwAll K H xs [.list (l.map WData.int)]) : ∃ p, xs = [.ref p] ∧ SqL K H p (l.map V.int) := by
  cases h with
  | cons h1 h2 =>
    cases h2
    cases h1 with
    | lst hS hA =>
      rw [ints_dw l _ hA] at hS
      exact ⟨_, rfl, hS⟩
theorem within_of {l : List Int} {u : Unit} (h : PySem.W.Codec.withinAll RR.args (l, u) = true) : l.length ≤ 17000 ∧ ∀ x ∈ l, -1000000000000000000 ≤ x ∧ x ≤ 1000000000000000000 := by
  have h : (PySem.W.Codec.inList 0 17000 (PySem.W.Codec.inInt (-1000000000000000000) 1000000000000000000) l && true) = true := h
  simp only [Bool.and_true] at h
  unfold PySem.W.Codec.inList at h
  rw [Bool.and_eq_true] at h
  refine ⟨?_, fun x hx => ?_⟩
  · have z := h.1
    unfold PySem.W.Codec.inLen PySem.W.Codec.inNat at z
    simp at z
    omega
  · have z := List.all_eq_true.mp h.2 x hx
    unfold PySem.W.Codec.inInt at z
    rw [Bool.and_eq_true, decide_eq_true_eq, decide_eq_true_eq] at z
    exact z
abbrev dA : DefRec := topDef P 114
theorem holds (plain : Plain) : RR.Holds := by
  w_on
  refine holds_os (r := RR) (q := qv) (loose := loose) (XP := XL qv []) (YP := hk.says) (d := dA) (kwd := []) left hk.of hk.keeps
    (fun s z => xl_of s (Bool.and_eq_true_iff.mp z).1) XL.keeps (by kernel_rfl) (by kernel_rfl) (by kernel_rfl) (fun s z => recFacts_of (Bool.and_eq_true_iff.mp z).2) os_shapes said (by decide +kernel) ⟨rfl, rfl, rfl, rfl, rfl, whole⟩ ?hw ?hc
  case hw => exact ⟨[.list [.int 15]], by decide +kernel, by decide +kernel⟩
  case hc =>
    refine Hx.walk_specX (k := 40) (ps := ["calls"]) (CX := CX0) said rfl rfl ⟨rfl, by decide, by decide⟩ ?F (fun _ _ _ _ z => z)
    intro w mg f h Y G hmg0
    obtain ⟨K, KX, c, e⟩ := Y
    have hmg : mg ("answers" : PySem.Str) = some (.ref f) := by
      have e : dA.name = ("answers" : PySem.Str) := by kernel_rfl
      rw [← e]
      exact hmg0
    have env := env_of KX G c e
    obtain ⟨f2, fd, hf2, _, _, hb, hF⟩ := (Wk.ok_answers (w := w) env).ex
    obtain rfl : f = f2 := by
      have := hmg.symm.trans hf2
      injection this with this
      injection this
    refine ⟨K, _, fd, KX, hb, ?_, fun base _ _ => (hF base).mono (by decide)⟩
    rintro H xs ⟨l, u⟩ hO hwi has hd
    have hd : DwAll K H xs [.list (l.map WData.int)] := hd
    have has : PyVanbkh.answers_asked l = true := has
    obtain ⟨hl, hr⟩ := within_of hwi
    obtain ⟨p1, p2, p3⟩ := plain l hl hr has
    obtain ⟨p, rfl, hS⟩ := dw_arg hd
    refine ⟨⟨l⟩, H, Ex.refl H, .cons ⟨p, rfl, hS⟩ .nil, ⟨Nat.le_trans hl (by decide), p1, p2⟩, fun v F' H' e r => ?_⟩
    show Dw K H' v (.list ((PyVanbkh.answers l).map WData.int))
    rw [p3]
    obtain ⟨a, rfl, h⟩ := rep_ints r
    exact .lst (sqL_of (e.sub _ _ h)) (dw_ints _)
end Hd
end
theorem PySem.Challenge.cw_reportlayout_s01_answers_holds : PySem.Challenge.rw_reportlayout_s01_answers.Holds :=
  Hd.holds fun l h1 h2 h3 => R.plain l h1 h2 h3
